-- WRITTEN BY A PROGRAM OF THIS SESSION
import Derived.Test.YthgkhfhfahifmaaQ0
namespace Go.Proofs.Ythgkhfhfahifmaa.Q
open Go.RowKit Go.Proofs.YthgkhfhfahifmaaW.PrintWords Go.Proofs.YthgkhfhfahifmaaW.PrintLast Go.Proofs.YthgkhfhfahifmaaW.PrintMore
attribute [local go_sem] max2_int min2_int max_two min_two max_three min_three max_four min_four   -- for this text's walks alone
set_option linter.unusedVariables false
set_option linter.unusedSimpArgs false

/-! ### slices_Clone_int_int: function 75 (by hand: a row compared with nil) -/
def slices_Clone_int_int.f (l0 : List Int) : Option (List Int):=if l0.length < 17592186044416 then some l0 else none
/-- A row compared with nil. -/
theorem run_eql_rownil {P : Program} (w : World) (t e : TypeId) (a : Option Addr) (n c : Nat) (h : P.underlying t = some (.slice e)) : (binOp .eql t (.slice a n c) (.slice none 0 0)).run P w = .ok (.bool a.isNone) w:=by
 have h1 : ∀ d,(Op.equalIn (d + 1) t (.slice a n c) (.slice none 0 0)).run P w = .ok a.isNone w:=fun d => by cases a <;> simp [Op.equalIn,run_underlying h]
 simp only [binOp]
 simp [Op.equal,Op.maxDepth,h1 9999]
/-- An empty literal of numbers, just laid. -/
theorem R_lit0n (E : Nat) (W : World) : (Kd.int .i64).R E (W.alloc (.cells #[] E)) W.heap.size (fun _ => True) (.slice (some ⟨W.heap.size,0,none⟩) 0 0) ([] : List Int):=by
 refine ⟨fun _ _ => trivial,[],?_,⟨by simp,fun j p hj => by simp at hj⟩⟩
 have h2:=World.ownsRow_lit (base:=W.heap.size) (e:=E) (size:=1) W #[] 0 (Nat.le_refl _) (by simp [maxLen]) (by simp)
 change (W.alloc (.cells #[] E)).ownsRow W.heap.size E 1 _ 0 []
 simpa using h2
set_option maxHeartbeats 8000000 in
set_option maxRecDepth 100000 in
theorem slices_Clone_int_int.calls (A0 : Option Addr) (c0 : Nat) (l0 : List Int) (r : List Int) (w : World) (hr0 : Kd.C (Kd.int .i64) w A0 l0.length l0) (hc0 : l0.length ≤ c0) (h : slices_Clone_int_int.f l0 = some r) :
  Calls Try.prog 75 #[.slice A0 l0.length c0] w fun e w' => ∃ v0_ : Value,e = .returned (v0_) ∧ (Kd.int .i64).R 3 w' w.heap.size (fun _ => True) v0_ r ∧ Below w.heap.size w w':=by
 have HR0:=Aside0.mk hr0
 have HC0:=Aside0.mk hc0
 unfold slices_Clone_int_int.f at h
 by_cases c1 : l0.length < 17592186044416
 rotate_left
 ·rw [if_neg c1] at h;exact absurd h (by simp)
 rw [if_pos c1] at h
 obtain rfl:=Option.some.inj h
 have heq:=fun W => run_eql_rownil (P:=Try.prog) W 37 3 A0 l0.length c0 Try.underlying37
 have HLM:=Aside0.mk c1
 cases A0 with
 | none =>
  simp only [Option.isNone_none] at heq
  have hn : l0 = []:=by
   cases l0 with
   | nil => rfl
   | cons x q =>
    obtain ⟨_,e1,_⟩:=Kd.at_int hr0 0 (by omega) (by simp)
    cases e1
  subst hn
  simp only [List.length_nil] at heq
  clear h hr0 hc0 c1
  go_enter Try.func75,Try.ntmps75
  go_wp2
  go_ret
  exact ⟨_,rfl,Kd.R_nil _ _ _ _ _,Below.refl _ _⟩
 | some ad =>
  simp only [Option.isNone_some] at heq
  have hLit:=Aside0.mk (R_lit0n 3 w)
  have hBel:=Aside0.mk (below_alloc (Below.refl w.heap.size w) (.cells #[] 3))
  clear h hr0 hc0 c1
  go_enter Try.func75,Try.ntmps75
  go_wp2_with (first | ((with_reducible refine gate_builtin (b:=.append) (xs:=#[.tmp 5,.tmp 6]) rfl ?_);at_builtin;refine Kd.R_append_rows (Kd.int .i64) (w0:=w) w.heap.size rfl (.tmp 5) (.tmp 6) 37 3 (.int .i64 0) 8 rfl Try.underlying37 (by kernel_rfl) rfl (by decide) (by omega) (.slice (some ⟨w.heap.size,0,none⟩) 0 0) ([] : List Int) l0 _ _ _ (fun _ => True) (fun _ => False) rfl rfl ?aO ?aR (fun _ _ h => h) (fun _ h => h.elim) ?aF ?aB ?aS ?aL ?_;(case aR => exact Kd.C_below HR0.out hBel.out);(case aO => exact hLit.out);(case aF => exact fun _ _ => trivial);(case aB => exact hBel.out);(case aS => exact hBel.out.size);(case aL => have:=HLM.out;simp;omega);intro v7 w7 ho hb hg hat;rw [List.nil_append] at ho;obtain ⟨Av,cv,ev⟩:=Kd.R_slice ho;subst ev;have HO:=Aside0.mk ho;have HB:=Aside0.mk hb;clear ho hb hg hat))
  go_ret
  exact ⟨_,rfl,HO.out,HB.out⟩

/-! ### bits_Mul32: function 108 -/
def bits_Mul32.f (a0 : Int) (a1 : Int) : Option (Int × Int):=some (((IntKind.u64.wrap ((IntKind.u64.wrap (a0)) * (IntKind.u64.wrap (a1)))) / 4294967296) % 4294967296,(IntKind.u64.wrap ((IntKind.u64.wrap (a0)) * (IntKind.u64.wrap (a1)))) % 4294967296)
set_option maxHeartbeats 8000000 in
set_option maxRecDepth 100000 in
theorem bits_Mul32.calls (a0 : Int) (a1 : Int) (r1 : Int) (r2 : Int) (w : World) (h : bits_Mul32.f a0 a1 = some (r1,r2)) :
  Calls Try.prog 108 #[.int .u32 a0,.int .u32 a1] w fun e w' => e = .returned (.tuple #[.int .u32 r1,.int .u32 r2]) ∧ Drawn0 w w':=by
 have H : (some (((IntKind.u64.wrap ((IntKind.u64.wrap (a0)) * (IntKind.u64.wrap (a1)))) / 4294967296) % 4294967296,(IntKind.u64.wrap ((IntKind.u64.wrap (a0)) * (IntKind.u64.wrap (a1)))) % 4294967296)) = some (r1,r2):=h
 clear h
 simp only [Option.some.injEq,Prod.mk.injEq] at H
 obtain ⟨rfl,rfl⟩:=H
 go_enter Try.func108,Try.ntmps108
 go_wp2
 go_ret2
 exact ⟨by first | rfl | (simp;done) | (simp [*];done),by repeat (first | exact Drawn0.refl _ | apply Drawn0.step)⟩

/-! ### bits_Mul64: function 109 -/
def bits_Mul64.f (a0 : Int) (a1 : Int) : Option (Int × Int):=some (IntKind.u64.wrap ((IntKind.u64.wrap ((IntKind.u64.wrap ((a0 / 4294967296) * (a1 / 4294967296))) + ((IntKind.u64.wrap ((IntKind.u64.wrap ((a0 / 4294967296) * (Go.bits .and .u64 a1 4294967295))) + ((IntKind.u64.wrap ((Go.bits .and .u64 a0 4294967295) * (Go.bits .and .u64 a1 4294967295))) / 4294967296))) / 4294967296))) + ((IntKind.u64.wrap ((Go.bits .and .u64 (IntKind.u64.wrap ((IntKind.u64.wrap ((a0 / 4294967296) * (Go.bits .and .u64 a1 4294967295))) + ((IntKind.u64.wrap ((Go.bits .and .u64 a0 4294967295) * (Go.bits .and .u64 a1 4294967295))) / 4294967296))) 4294967295) + (IntKind.u64.wrap ((Go.bits .and .u64 a0 4294967295) * (a1 / 4294967296))))) / 4294967296)),IntKind.u64.wrap (a0 * a1))
set_option maxHeartbeats 8000000 in
set_option maxRecDepth 100000 in
theorem bits_Mul64.calls (a0 : Int) (a1 : Int) (r1 : Int) (r2 : Int) (w : World) (h : bits_Mul64.f a0 a1 = some (r1,r2)) :
  Calls Try.prog 109 #[.int .u64 a0,.int .u64 a1] w fun e w' => e = .returned (.tuple #[.int .u64 r1,.int .u64 r2]) ∧ Drawn0 w w':=by
 have H : (some (IntKind.u64.wrap ((IntKind.u64.wrap ((IntKind.u64.wrap ((a0 / 4294967296) * (a1 / 4294967296))) + ((IntKind.u64.wrap ((IntKind.u64.wrap ((a0 / 4294967296) * (Go.bits .and .u64 a1 4294967295))) + ((IntKind.u64.wrap ((Go.bits .and .u64 a0 4294967295) * (Go.bits .and .u64 a1 4294967295))) / 4294967296))) / 4294967296))) + ((IntKind.u64.wrap ((Go.bits .and .u64 (IntKind.u64.wrap ((IntKind.u64.wrap ((a0 / 4294967296) * (Go.bits .and .u64 a1 4294967295))) + ((IntKind.u64.wrap ((Go.bits .and .u64 a0 4294967295) * (Go.bits .and .u64 a1 4294967295))) / 4294967296))) 4294967295) + (IntKind.u64.wrap ((Go.bits .and .u64 a0 4294967295) * (a1 / 4294967296))))) / 4294967296)),IntKind.u64.wrap (a0 * a1))) = some (r1,r2):=h
 clear h
 simp only [Option.some.injEq,Prod.mk.injEq] at H
 obtain ⟨rfl,rfl⟩:=H
 go_enter Try.func109,Try.ntmps109
 go_wp2
 go_ret2
 exact ⟨by first | rfl | (simp;done) | (simp [*];done),by repeat (first | exact Drawn0.refl _ | apply Drawn0.step)⟩

/-! ### bits_Mul: function 95 -/
def bits_Mul.f (a0 : Int) (a1 : Int) : Option (Int × Int):=(bits_Mul64.f a0 a1).bind fun bt317 => (some (bt317.1,bt317.2))
set_option maxHeartbeats 8000000 in
set_option maxRecDepth 100000 in
theorem bits_Mul.calls (a0 : Int) (a1 : Int) (r1 : Int) (r2 : Int) (w : World) (h : bits_Mul.f a0 a1 = some (r1,r2)) :
  Calls Try.prog 95 #[.int .u64 a0,.int .u64 a1] w fun e w' => e = .returned (.tuple #[.int .u64 r1,.int .u64 r2]) ∧ Drawn0 w w':=by
 have H : ((bits_Mul64.f a0 a1).bind fun bt317 => (some (bt317.1,bt317.2))) = some (r1,r2):=h
 clear h
 replace H:=Option.bind_eq_some_iff.mp H
 obtain ⟨⟨t317,t318⟩,A30,H⟩:=H
 replace H : (some (t317,t318)) = some (r1,r2):=H
 have A3:=Aside0.mk A30
 clear A30
 simp only [Option.some.injEq,Prod.mk.injEq] at H
 obtain ⟨rfl,rfl⟩:=H
 go_enter Try.func95,Try.ntmps95
 go_wp2_with (first | ((with_reducible refine gate_callee (f:=109) rfl ?_);refine goesL_ (some 25) rfl rfl Try.func109 (by kernel_rfl) rfl #[.int .u64 a0,.int .u64 a1] rfl (by (try simp only [List.map_toArray,List.map_cons,List.map_nil]);first | done | rfl | (simp only [List.length_drop,List.length_take];rfl)) ?_;(with_reducible refine (bits_Mul64.calls a0 a1 t317 t318 _ A3.out).mono ?_);rintro e w' ⟨rfl,⟨nd,rfl⟩⟩;refine ⟨_,rfl,?_⟩))
 go_ret2
 exact ⟨by first | rfl | (simp;done) | (simp [*];done),by repeat (first | exact Drawn0.refl _ | apply Drawn0.step)⟩

/-! ### slices_Repeat_int_int: function 81 (by hand: one number, told again and again) -/
def slices_Repeat_int_int.f (l : List Int) (n : Int) : Option (List Int):=match l with
 | [z] => if 0 ≤ n ∧ n ≤ 64 then some (List.replicate n.toNat z) else none
 | _ => none
theorem mul_one64 : ∀ m : Nat,m < 65 → bits_Mul.f 1 (m : Int) = some (0,(m : Int)):=by decide +kernel
/-- z, m times, behind it noughts: n cells in all. -/
def repCells (z : Int) (n m : Nat) : List Value:=List.replicate m (.int .i64 z) ++ List.replicate (n - m) (.int .i64 0)
theorem made_cells (n : Nat) (z : Int) : madeCells #[.int .i64 0] n = (repCells z n 0).toArray:=by
 apply Array.ext
 ·simp [size_madeCells,repCells]
 ·intro i h1 h2
  simp [madeCells,repCells,Nat.mod_one]
theorem repCells_splice (z : Int) (n m c : Nat) (h : m + c ≤ n) : splice (repCells z n m) m (List.replicate c (.int .i64 z)) = repCells z n (m + c):=by
 unfold splice repCells
 rw [List.take_append,List.drop_append,List.length_replicate,List.length_replicate]
 simp only [List.take_replicate,List.drop_replicate]
 rw [show min m m = m by omega,show min (m - m) (n - m) = 0 by omega,show m - (m + c) = 0 by omega,show m + c - m = c by omega,show n - m - c = n - (m + c) by omega]
 simp only [List.replicate_zero,List.append_nil,List.nil_append]
 rw [← List.append_assoc,List.replicate_append_replicate]
theorem repCells_length (z : Int) (n m : Nat) (h : m ≤ n) : (repCells z n m).length = n:=by simp [repCells];omega
theorem repCells_cell {W : World} {g t : Nat} {z : Int} {n m : Nat} (h : W.heap[g]? = some (.cells (repCells z n m).toArray t (0,0))) (j : Nat) (hj : j < m) : W.cell? ⟨g,j,none⟩ = some (.int .i64 z):=by
 rw [blk_cell h]
 simp [repCells,List.getElem?_append,hj]
theorem repCells_R {W : World} {g t base : Nat} {z : Int} {n : Nat} (h : W.heap[g]? = some (.cells (repCells z n n).toArray t (0,0))) (hb : base ≤ g) (hn : n ≤ 64) : (Kd.int .i64).R t W base (fun _ => True) (.slice (some ⟨g,0,none⟩) n n) (List.replicate n z):=by
 have e1 : repCells z n n = encs (Value.int .i64) (List.replicate n z):=by simp [repCells,encs]
 have hl : (List.replicate n z).length = n:=by simp
 have:=Kd.R_of_own (enc:=Value.int .i64) (h1:=fun _ => rfl) (e:=t) (w:=W) (base:=base) (ok:=fun _ => True) (v:=.slice (some ⟨g,0,none⟩) n n) (xs:=List.replicate n z) ⟨by rw [encs_length,Nat.mul_one],.inr ⟨g,n,_,by rw [hl],hb,h,by rw [hl];exact Nat.le_refl _,by unfold maxLen;omega,by simp [repCells_length],by rw [hl,e1,Nat.mul_one];exact List.take_of_length_le (by simp [encs_length])⟩⟩ (fun _ _ => trivial)
 exact this
theorem rep_get {m j : Nat} {z : Int} {v : Value} (h : (List.replicate m (Value.int .i64 z))[j]? = some v) : j < m ∧ v = .int .i64 z:=by
 rw [List.getElem?_replicate] at h
 by_cases hj : j < m
 ·rw [if_pos hj] at h;exact ⟨hj,(Option.some.inj h).symm⟩
 ·rw [if_neg hj] at h;exact absurd h (by simp)
theorem rp_pos {W : World} {ad : Addr} {z : Int} {m0 : Nat} (g : Nat) (hx : W.cell? (ad.add 0) = some (.int .i64 z)) (h1 : m0 ≤ 1) : 0 < (List.replicate m0 (Value.int .i64 z)).length → (some ⟨g,0,none⟩ : Option Addr) = some ⟨g,0,none⟩ ∧ ∃ a,some ad = some a ∧ ∀ j v,(List.replicate m0 (Value.int .i64 z))[j]? = some v → W.cell? (a.add j) = some v:=by
 intro _
 refine ⟨rfl,ad,rfl,fun j v hv => ?_⟩
 obtain ⟨hj,rfl⟩:=rep_get hv
 obtain rfl : j = 0:=by omega
 exact hx
theorem rp_pos2 {W : World} {g t n m c : Nat} {z : Int} (h : W.heap[g]? = some (.cells (repCells z n m).toArray t (0,0))) (hc : c ≤ m) : 0 < (List.replicate c (Value.int .i64 z)).length → (some ⟨g,m,none⟩ : Option Addr) = some ⟨g,m,none⟩ ∧ ∃ a,(some ⟨g,0,none⟩ : Option Addr) = some a ∧ ∀ j v,(List.replicate c (Value.int .i64 z))[j]? = some v → W.cell? (a.add j) = some v:=by
 intro _
 refine ⟨rfl,_,rfl,fun j v hv => ?_⟩
 obtain ⟨hj,rfl⟩:=rep_get hv
 rw [add_plain]
 exact repCells_cell h j (by omega)
theorem rp_one {c : Nat} {z : Int} : ∀ v ∈ List.replicate c (Value.int .i64 z),v.oneCell' = true:=by
 intro v hv
 rw [List.eq_of_mem_replicate hv];simp [Value.oneCell']
set_option maxHeartbeats 8000000 in
set_option maxRecDepth 100000 in
theorem slices_Repeat_int_int.calls (A0 : Option Addr) (c0 : Nat) (l0 : List Int) (a1 : Int) (r : List Int) (w : World) (hr0 : Kd.C (Kd.int .i64) w A0 l0.length l0) (hc0 : l0.length ≤ c0) (h : slices_Repeat_int_int.f l0 a1 = some r) :
  Calls Try.prog 81 #[.slice A0 l0.length c0,.int .i64 a1] w fun e w' => ∃ v0_ : Value,e = .returned (v0_) ∧ (Kd.int .i64).R 3 w' w.heap.size (fun _ => True) v0_ r ∧ Below w.heap.size w w':=by
 cases l0 with
 | nil => simp [slices_Repeat_int_int.f] at h
 | cons z q =>
  cases q with
  | cons _ _ => simp [slices_Repeat_int_int.f] at h
  | nil =>
   unfold slices_Repeat_int_int.f at h
   dsimp only at h
   by_cases c1 : 0 ≤ a1 ∧ a1 ≤ 64
   rotate_left
   ·rw [if_neg c1] at h;exact absurd h (by simp)
   rw [if_pos c1] at h
   obtain rfl:=Option.some.inj h
   obtain ⟨n,rfl⟩ : ∃ n : Nat,a1 = (n : Int):=⟨a1.toNat,by omega⟩
   have hn : n ≤ 64:=by omega
   rw [Int.toNat_natCast]
   obtain ⟨ad,e1,hx⟩:=Kd.at_int hr0 0 (by omega) (by simp)
   cases e1
   have HX : Aside0 (w.cell? (ad.add 0) = some (.int .i64 z)):=⟨hx⟩
   have HM:=Aside0.mk (mul_one64 n (by omega))
   have HN:=Aside0.mk hn
   have hu1 : IntKind.u64.wrap 1 = 1:=by decide
   have hun : IntKind.u64.wrap (n : Int) = n:=by
    have h2 : (2 : Int) ^ IntKind.u64.bits = 18446744073709551616:=rfl
    simp only [IntKind.wrap]
    rw [h2]
    first | omega | (simp [IntKind.signed];omega)
   have hin : IntKind.i64.wrap (n : Int) = n:=by rw [i64_w];unfold wrap64;omega
   have hmk:=fun W => run_make_row' (P:=Try.prog) 37 3 (.int .i64 0) 8 Try.underlying37 (by kernel_rfl) rfl .i64 .i64 n (by omega) (by omega) W
   have hlt : decide ((n : Int) < 0) = false:=decide_eq_false (by omega)
   have hgt : decide ((0 : Int) > 0) = false:=rfl
   have hgt2 : decide ((n : Int) > 9223372036854775807) = false:=decide_eq_false (by omega)
   have HG:=Aside0.mk (heap_alloc_new w (.cells (madeCells #[.int .i64 0] n) 3))
   obtain ⟨m0,HM0⟩ : ∃ m0 : Nat,Aside0 (m0 = Nat.min 1 n ∧ m0 ≤ 1 ∧ m0 ≤ n ∧ (0 < m0 ∨ n = 0)):=by
    cases n with
    | zero => exact ⟨0,⟨by rfl,by omega,by omega,by omega⟩⟩
    | succ q => exact ⟨1,⟨by simp [Nat.min_def],by omega,by omega,by omega⟩⟩
   simp only [List.length_singleton]
   clear h hr0 hc0 c1 hx hn
   go_enter Try.func81,Try.ntmps81
   go_wp2_with (first | (go_at_call 95;refine (bits_Mul.calls 1 (n : Int) 0 (n : Int) _ HM.out).mono ?_;rintro e w2 ⟨rfl,⟨nd,rfl⟩⟩) | (with_reducible refine wpList_copy_splice rfl (.tmp 31) (.tmp 32) 37 37 rfl 3 Try.underlying37 (by kernel_rfl) (some ⟨w.heap.size,0,none⟩) (some ad) n n 1 c0 rfl rfl w.heap.size 0 (repCells z n 0) 3 ?hg (List.replicate m0 (.int .i64 z)) ?hn ?hpos ?hfit ?h1 w.heap.size w ?hb (Nat.le_refl _) ?_;(case hg => rw [← made_cells n z];have h_:=heap_alloc_new (w.drewN nd) (.cells (madeCells #[.int .i64 0] n) 3);first | exact h_ | simpa using h_);(case hn => rw [List.length_replicate];exact HM0.out.1);(case hpos => exact rp_pos w.heap.size (pw_cell_below (below_alloc (pw_below_drewN (Below.refl _ _) nd) _) HX.out) HM0.out.2.1);(case hfit => rw [repCells_length z n 0 (Nat.zero_le _),List.length_replicate];have hm_:=HM0.out.2.2.1;omega);(case h1 => intro v hv;rw [List.eq_of_mem_replicate hv];simp [Value.oneCell']);(case hb => exact below_alloc (pw_below_drewN (Below.refl _ _) _) _);intro w3 hg3 hb3;have HG3:=Aside0.mk hg3.out;have HB3:=Aside0.mk hb3;clear hg3 hb3))
   have HG4:=Aside0.mk (by have h2:=HG3.out;have h3:=repCells_splice z n 0 m0 (by have:=HM0.out;omega);rw [h3,Nat.zero_add] at h2;exact h2)
   clear HG3
   (try simp only [List.length_replicate,goInt])
   go_loopg [8] n (fun kq v8 w' => ∃ m : Nat,v8 = .int .i64 (m : Int) ∧ Aside0 (m ≤ n ∧ (0 < m ∨ n = 0) ∧ n - m ≤ kq) ∧ Aside0 (w'.heap[w.heap.size]? = some (.cells (repCells z n m).toArray 3 (0,0))) ∧ Aside0 (Below w.heap.size w w'))
   case atStart => exact ⟨m0,rfl,⟨by have:=HM0.out;omega,by have:=HM0.out;omega,by omega⟩,HG4,HB3⟩
   case round =>
    clear HG4 HB3 HM0
    obtain ⟨m,rfl,HA,HG,HB⟩:=hrel
    by_cases c2 : m < n
    rotate_left
    ·have hmn : m = n:=by have:=HA.out;omega
     subst hmn
     have c2b : decide (m < m) = false:=decide_eq_false c2
     clear c2
     go_wp2
     go_ret
     exact ⟨_,rfl,repCells_R HG.out (Nat.le_refl _) HN.out,HB.out⟩
    have HK:=Aside0.mk c2
    have c2b : decide (m < n) = true:=decide_eq_true c2
    have c20 : (0 : Int) ≤ (m : Int):=by omega
    have c21 : (m : Int) ≤ (n : Int):=by omega
    obtain ⟨c,hc⟩ : ∃ c,c = Nat.min m (n - m):=⟨_,rfl⟩
    have HC:=Aside0.mk (show c = Nat.min m (n - m) ∧ c ≤ m ∧ m + c ≤ n ∧ 0 < c by
     have:=HA.out
     rw [hc]
     rcases Nat.le_total m (n - m) with h1 | h1
     ·rw [show Nat.min m (n - m) = m from Nat.min_eq_left h1];omega
     ·rw [show Nat.min m (n - m) = n - m from Nat.min_eq_right h1];omega)
    have hsum : IntKind.i64.wrap ((m : Int) + (c : Int)) = ((m + c : Nat) : Int):=by
     have:=HC.out;have:=HN.out
     rw [i64_w];unfold wrap64;omega
    have HG5:=Aside0.mk (show (World.drew wr).heap[w.heap.size]? = some (.cells (repCells z n m).toArray 3 (0,0)) from HG.out)
    have HF:=Aside0.mk (show m + (List.replicate c (Value.int .i64 z)).length ≤ (repCells z n m).length by
     have:=HC.out;have:=HA.out
     rw [List.length_replicate,repCells_length z n m this.1];omega)
    have HLn:=Aside0.mk (show (List.replicate c (Value.int .i64 z)).length = Nat.min m (n - m) by rw [List.length_replicate];exact HC.out.1)
    have hnm : (n = m) = False:=eq_false (by omega)
    clear c2 hc
    go_wp2
    go_region_held3 (fun _ => True) (trivial) ((refine step_copy_splice rfl (.tmp 41) (.tmp 44) 37 37 rfl 3 Try.underlying37 (by kernel_rfl) (some ⟨w.heap.size,m,none⟩) (some ⟨w.heap.size,0,none⟩) (n - m) (n - m) m n (by rfl) (by rfl) w.heap.size m (repCells z n m) 3 HG5.out (List.replicate c (.int .i64 z)) HLn.out (rp_pos2 HG5.out HC.out.2.1) HF.out rp_one w.heap.size w (below_drew1 HB.out) (Nat.le_refl _) ?_;intro w4 hg4 hb4;have HG6:=Aside0.mk hg4.out;have HB6:=Aside0.mk hb4;clear hg4 hb4))
    go_wp2
    have HG7:=Aside0.mk (by have h2:=HG6.out;rw [repCells_splice z n m c HC.out.2.2.1] at h2;exact h2)
    cases gk with
    | zero => exact absurd HA.out (by have:=HK.out;omega)
    | succ k1 =>
     go_roundg k1
     case measure => omega
     case rel => exact ⟨m + c,by (try simp only [List.length_replicate,goInt]);first | rfl | (rw [hsum];done) | (trace_state;simp;done) ,⟨by have:=HC.out;omega,by have:=HC.out;omega,by have:=HC.out;have:=HA.out;omega⟩,HG7,HB6⟩

/-! ### slices_Clone_impl_Flat: function 82 (by hand: a row compared with nil) -/
def slices_Clone_impl_Flat.f (l0 : List S79) : Option (List S79):=if l0.length < 2932031007402 then some l0 else none
/-- A row compared with nil. -/
theorem run_eql_rownilF {P : Program} (w : World) (t e : TypeId) (a : Option Addr) (n c : Nat) (h : P.underlying t = some (.slice e)) : (binOp .eql t (.slice a n c) (.slice none 0 0)).run P w = .ok (.bool a.isNone) w:=by
 have h1 : ∀ d,(Op.equalIn (d + 1) t (.slice a n c) (.slice none 0 0)).run P w = .ok a.isNone w:=fun d => by cases a <;> simp [Op.equalIn,run_underlying h]
 simp only [binOp]
 simp [Op.equal,Op.maxDepth,h1 9999]
/-- An empty literal of flat steps, just laid. -/
theorem R_lit0F (E : Nat) (W : World) : k79.R E (W.alloc (.cells #[] E)) W.heap.size (fun _ => True) (.slice (some ⟨W.heap.size,0,none⟩) 0 0) ([] : List S79):=by
 refine ⟨fun _ _ => trivial,[],?_,⟨by simp,fun j p hj => by simp at hj⟩⟩
 have h2:=World.ownsRow_lit (base:=W.heap.size) (e:=E) (size:=6) W #[] 0 (Nat.le_refl _) (by simp [maxLen]) (by simp)
 change (W.alloc (.cells #[] E)).ownsRow W.heap.size E 6 _ 0 []
 simpa using h2
set_option maxHeartbeats 8000000 in
set_option maxRecDepth 100000 in
theorem slices_Clone_impl_Flat.calls (A0 : Option Addr) (c0 : Nat) (l0 : List S79) (r : List S79) (w : World) (hr0 : Kd.C k79 w A0 l0.length l0) (hc0 : l0.length ≤ c0) (h : slices_Clone_impl_Flat.f l0 = some r) :
  Calls Try.prog 82 #[.slice A0 l0.length c0] w fun e w' => ∃ v0_ : Value,e = .returned (v0_) ∧ k79.R 79 w' w.heap.size (fun _ => True) v0_ r ∧ Below w.heap.size w w':=by
 have HR0:=Aside0.mk hr0
 have HC0:=Aside0.mk hc0
 unfold slices_Clone_impl_Flat.f at h
 by_cases c1 : l0.length < 2932031007402
 rotate_left
 ·rw [if_neg c1] at h;exact absurd h (by simp)
 rw [if_pos c1] at h
 obtain rfl:=Option.some.inj h
 have heq:=fun W => run_eql_rownilF (P:=Try.prog) W 54 79 A0 l0.length c0 Try.underlying54
 have HLM:=Aside0.mk c1
 cases A0 with
 | none =>
  simp only [Option.isNone_none] at heq
  have hn : l0 = []:=by
   cases l0 with
   | nil => rfl
   | cons x q =>
    obtain ⟨_,e1,_⟩:=at_T79 hr0 0 (by omega) (by simp)
    cases e1
  subst hn
  simp only [List.length_nil] at heq
  clear h hr0 hc0 c1
  go_enter Try.func82,Try.ntmps82
  go_wp2
  go_ret
  exact ⟨_,rfl,Kd.R_nil _ _ _ _ _,Below.refl _ _⟩
 | some ad =>
  simp only [Option.isNone_some] at heq
  have hLit:=Aside0.mk (R_lit0F 79 w)
  have hBel:=Aside0.mk (below_alloc (Below.refl w.heap.size w) (.cells #[] 79))
  clear h hr0 hc0 c1
  go_enter Try.func82,Try.ntmps82
  go_wp2_with (first | ((with_reducible refine gate_builtin (b:=.append) (xs:=#[.tmp 5,.tmp 6]) rfl ?_);at_builtin;refine Kd.R_append_rows k79 (Rr:=k79.K (w.alloc (.cells #[] 79))) (w0:=w) w.heap.size rfl (.tmp 5) (.tmp 6) 54 79 (.agg #[.int .i64 0,.int .i64 0,.int .i64 0,.int .i64 0,.int .i64 0,.int .i64 0]) 48 rfl Try.underlying54 (by kernel_rfl) rfl (by decide) (by omega) (.slice (some ⟨w.heap.size,0,none⟩) 0 0) ([] : List S79) l0 _ _ _ (fun _ => True) (fun _ => False) rfl rfl ?aO ?aR (fun x_ cs_ h_ => by obtain rfl:=k79_open h_;exact k79_mkM _ _ _ x_) (fun _ h => h.elim) ?aF ?aB ?aS ?aL ?_;(case aR => exact Kd.C_below HR0.out hBel.out);(case aO => exact hLit.out);(case aF => exact fun _ _ => trivial);(case aB => exact hBel.out);(case aS => exact hBel.out.size);(case aL => have:=HLM.out;simp;omega);intro v7 w7 ho hb hg hat;rw [List.nil_append] at ho;obtain ⟨Av,cv,ev⟩:=Kd.R_slice ho;subst ev;have HO:=Aside0.mk ho;have HB:=Aside0.mk hb;clear ho hb hg hat))
  go_ret
  exact ⟨_,rfl,HO.out,HB.out⟩

end Go.Proofs.Ythgkhfhfahifmaa.Q
