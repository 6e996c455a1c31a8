-- WRITTEN BY A PROGRAM OF THIS SESSION
import Derived.Test.YtbmnoenbhlfjaaaQ0
import Derived.Test.YtbmnoenbhlfjaaaQ7
import Derived.Test.YtbmnoenbhlfjaaaQ8
import Derived.Test.YtbmnoenbhlfjaaaQ9
namespace Go.Proofs.Ytbmnoenbhlfjaaa.Q
open Go.RowKit Go.Proofs.YtbmnoenbhlfjaaaW.PrintWords Go.Proofs.YtbmnoenbhlfjaaaW.PrintLast Go.Proofs.YtbmnoenbhlfjaaaW.PrintMore
attribute [local go_sem] max2_int min2_int max_two min_two max_three min_three max_four min_four   -- for this text's walks alone
set_option linter.unusedVariables false
set_option linter.unusedSimpArgs false

/-! ### impl_Graph_body: function 79 (by hand: a literal that captures variables in boxes) -/
/-- The literal: whether a number is another one, and marked. -/
def impl_Graph_body_1.f (_ : Nat) (h : Int) (tx : List Bool) (y : Int) : Option Bool:=if y = h then some false else (if 0 ≤ y then (if y < (tx.length : Int) then some (rdOf false tx y) else none) else none)
theorem impl_Graph_body_1.mono : ∀ a0 a1 a2 k,LeO (impl_Graph_body_1.f k a0 a1 a2) (impl_Graph_body_1.f (k + 1) a0 a1 a2):=fun _ _ _ _ => LeO.refl _
set_option maxHeartbeats 8000000 in
set_option maxRecDepth 100000 in
theorem impl_Graph_body_1.calls (k : Nat) (hb tb : Nat) (A0 : Option Addr) (c0 : Nat) (h : Int) (tx : List Bool) (y : Int) (r : Bool) (w : World) (hhb : w.heap[hb]? = some (.cells #[.int .i64 h] 3 (0,0))) (htb : w.heap[tb]? = some (.cells #[.slice A0 tx.length c0] 85 (0,0))) (hr0 : Kd.C Kd.bool w A0 tx.length tx) (hf : impl_Graph_body_1.f k h tx y = some r) :
  Calls Try.prog 94 #[.int .i64 y,.pointer (some ⟨hb,0,none⟩),.pointer (some ⟨tb,0,none⟩)] w fun e w' => e = .returned (.bool r) ∧ Drawn0 w w':=by
 have hc1 : w.cell? ⟨hb,0,none⟩ = some (.int .i64 h):=(blk_cell hhb 0).trans rfl
 have hc2 : w.cell? ⟨tb,0,none⟩ = some (.slice A0 tx.length c0):=(blk_cell htb 0).trans rfl
 unfold impl_Graph_body_1.f at hf
 clear hhb htb
 by_cases c1 : y = h
 ·rw [if_pos c1] at hf
  obtain rfl:=Option.some.inj hf
  have q1 : (y == h) = true:=by rw [c1];exact beq_self_eq_true h
  have q2 : (y != h) = false:=by rw [bne,q1];rfl
  have q3 : decide (y ≠ h) = false:=decide_eq_false (fun n => n c1)
  clear hf c1
  go_enter Try.func94,Try.ntmps94
  go_wp2
  go_ret
  exact ⟨rfl,by repeat (first | exact Drawn0.refl _ | apply Drawn0.step)⟩
 ·rw [if_neg c1] at hf
  by_cases c2 : 0 ≤ y
  ·rw [if_pos c2] at hf
   by_cases c3 : y < (tx.length : Int)
   ·rw [if_pos c3] at hf
    obtain rfl:=Option.some.inj hf
    have q1 : (y == h) = false:=by simpa using c1
    have q2 : (y != h) = true:=by rw [bne,q1];rfl
    have q3 : decide (y ≠ h) = true:=decide_eq_true c1
    obtain ⟨ad,eA,hx0⟩:=Kd.at_bool hr0 y c2 c3
    cases eA
    have p2:=eq_true c2
    have p3:=eq_true c3
    have p4 : decide (0 ≤ y) = true:=decide_eq_true c2
    have p5 : decide (y < (tx.length : Int)) = true:=decide_eq_true c3
    obtain ⟨z,hz⟩ : ∃ z,z = rdOf false tx y:=⟨_,rfl⟩
    rw [← hz] at hx0 ⊢
    clear hf c1 c2 c3 hr0 hz
    cases z <;>
    ·go_enter Try.func94,Try.ntmps94
     go_wp2
     go_ret
     exact ⟨rfl,by repeat (first | exact Drawn0.refl _ | apply Drawn0.step)⟩
   ·rw [if_neg c3] at hf;exact absurd hf (by simp)
  ·rw [if_neg c2] at hf;exact absurd hf (by simp)
/-- slices.IndexFunc with that literal. -/
def impl_Graph_body_1_ix.l0 : Nat → Int → List Bool → List Int → Int → Option Int
 | 0,_,_,_,_ => none
 | k + 1,h,tx,xs,i => if i < (xs.length : Int) then (if 0 ≤ i then ((impl_Graph_body_1.f k h tx (rd xs i)).bind fun t => (if t = true then (some i) else (impl_Graph_body_1_ix.l0 k h tx xs (wrap64 (i + 1))))) else none) else some (-1)
theorem impl_Graph_body_1_ix.mono_l : ∀ k,∀ y0 y1 y2 y3,LeO (impl_Graph_body_1_ix.l0 k y0 y1 y2 y3) (impl_Graph_body_1_ix.l0 (k + 1) y0 y1 y2 y3)
 | 0 => fun _ _ _ _ r h => by simp [impl_Graph_body_1_ix.l0] at h
 | k + 1 => by
  have ih0:=impl_Graph_body_1_ix.mono_l k
  intro y0 y1 y2 y3
  unfold impl_Graph_body_1_ix.l0
  repeat' first
   | (with_reducible exact ih0 _ _ _ _)
   | (with_reducible exact impl_Graph_body_1.mono _ _ _ _)
   | (with_reducible exact LeO.refl _)
   | (with_reducible exact LeO.none _)
   | (with_reducible refine LeO.ite ?_ ?_)
   | (with_reducible refine LeO.bind ?_ (fun _ => ?_))
theorem impl_Graph_body_1_ix.mono : ∀ y0 y1 y2 y3 k,LeO (impl_Graph_body_1_ix.l0 k y0 y1 y2 y3) (impl_Graph_body_1_ix.l0 (k + 1) y0 y1 y2 y3):=fun y0 y1 y2 y3 k => impl_Graph_body_1_ix.mono_l k y0 y1 y2 y3
set_option maxHeartbeats 8000000 in
set_option maxRecDepth 100000 in
theorem impl_Graph_body_1_ix.calls (k : Nat) (hb tb : Nat) (A0 : Option Addr) (c0 : Nat) (h : Int) (tx : List Bool) (A1 : Option Addr) (c1 : Nat) (xs : List Int) (r : Int) (w : World) (hhb : w.heap[hb]? = some (.cells #[.int .i64 h] 3 (0,0))) (htb : w.heap[tb]? = some (.cells #[.slice A0 tx.length c0] 85 (0,0))) (hr0 : Kd.C Kd.bool w A0 tx.length tx) (hr1 : Kd.C (Kd.int .i64) w A1 xs.length xs) (hf : impl_Graph_body_1_ix.l0 k h tx xs 0 = some r) :
  Calls Try.prog 96 #[.slice A1 xs.length c1,.func (.func 94) #[] #[.pointer (some ⟨hb,0,none⟩),.pointer (some ⟨tb,0,none⟩)]] w fun e w' => e = .returned (.int .i64 r) ∧ Drawn0 w w':=by
 have HR0:=Aside0.mk hr1
 have HHB:=Aside0.mk hhb
 have HTB:=Aside0.mk htb
 have HRL:=Aside0.mk hr0
 have H':=Aside0.mk hf
 clear hr1 hhb htb hr0 hf
 go_enter Try.func96,Try.ntmps96
 go_wp2
 go_loopg [8] k (fun kq v8 w' => ∃ (x8_1 : Int),v8 = .int .i64 x8_1 ∧ Aside0 (impl_Graph_body_1_ix.l0 kq h tx xs x8_1 = some r) ∧ Aside0 (kq ≤ k) ∧ Drawn0 w w')
 case atStart => exact ⟨0,rfl,H',⟨Nat.le_refl _⟩,Drawn0.refl _⟩
 case round =>
  clear H'
  obtain ⟨x8_1,rfl,HA,HK1,⟨m1,rfl⟩⟩:=hrel
  cases gk with
  | zero => exact absurd HA.out (by simp [impl_Graph_body_1_ix.l0])
  | succ k1 =>
   have H:=HA.out
   clear HA
   simp only [impl_Graph_body_1_ix.l0] at H
   by_cases c3 : x8_1 < (xs.length : Int)
   ·rw [if_pos c3] at H
    have c3b0 : decide (x8_1 < (xs.length : Int)) = true:=decide_eq_true c3
    by_cases c4 : 0 ≤ x8_1
    ·rw [if_pos c4] at H
     have c4b0 : decide (0 ≤ x8_1) = true:=decide_eq_true c4
     obtain ⟨t,A60,H⟩:=Option.bind_eq_some_iff.mp H
     obtain ⟨ad,eA,hx0⟩:=Kd.at_int HR0.out x8_1 c4 c3
     obtain ⟨y,hy⟩ : ∃ y,y = rd xs x8_1:=⟨_,rfl⟩
     rw [← hy] at hx0 A60
     cases eA
     have A6:=Aside0.mk A60
     clear A60 hy
     have p3:=eq_true c3
     have p4:=eq_true c4
     clear c3 c4
     cases t with
     | true =>
      rw [if_pos rfl] at H
      obtain rfl:=Option.some.inj H
      go_wp2_with (first | (go_at_call 94;(with_reducible refine (impl_Graph_body_1.calls k1 hb tb A0 c0 h tx y true _ (blk_drewN HHB.out _) (blk_drewN HTB.out _) (Kd.C_drewN HRL.out _) A6.out).mono ?_);rintro e w' ⟨rfl,⟨nd,rfl⟩⟩))
      go_ret
      exact ⟨rfl,by repeat (first | exact Drawn0.refl _ | apply Drawn0.step)⟩
     | false =>
      rw [if_neg (by decide)] at H
      have H':=Aside0.mk H
      clear H
      go_wp2_with (first | (go_at_call 94;(with_reducible refine (impl_Graph_body_1.calls k1 hb tb A0 c0 h tx y false _ (blk_drewN HHB.out _) (blk_drewN HTB.out _) (Kd.C_drewN HRL.out _) A6.out).mono ?_);rintro e w' ⟨rfl,⟨nd,rfl⟩⟩))
      go_roundg k1
      case measure => have:=HK1.out;omega
      case rel => exact ⟨(wrap64 (x8_1 + 1)),rfl,H',⟨by have:=HK1.out;omega⟩,by repeat (first | exact Drawn0.refl _ | apply Drawn0.step)⟩
    ·rw [if_neg c4] at H
     exact absurd H (by simp)
   ·rw [if_neg c3] at H
    have c3b0 : decide (x8_1 < (xs.length : Int)) = false:=decide_eq_false c3
    clear c3
    obtain rfl:=Option.some.inj H
    go_wp2
    go_ret
    exact ⟨rfl,by repeat (first | exact Drawn0.refl _ | apply Drawn0.step)⟩
set_option maxHeartbeats 8000000 in
set_option maxRecDepth 100000 in
theorem impl_Graph_body_1_cf.calls (k : Nat) (hb tb : Nat) (A0 : Option Addr) (c0 : Nat) (h : Int) (tx : List Bool) (A1 : Option Addr) (c1 : Nat) (xs : List Int) (r : Int) (w : World) (hhb : w.heap[hb]? = some (.cells #[.int .i64 h] 3 (0,0))) (htb : w.heap[tb]? = some (.cells #[.slice A0 tx.length c0] 85 (0,0))) (hr0 : Kd.C Kd.bool w A0 tx.length tx) (hr1 : Kd.C (Kd.int .i64) w A1 xs.length xs) (hf : impl_Graph_body_1_ix.l0 k h tx xs 0 = some r) :
  Calls Try.prog 93 #[.slice A1 xs.length c1,.func (.func 94) #[] #[.pointer (some ⟨hb,0,none⟩),.pointer (some ⟨tb,0,none⟩)]] w fun e w' => e = .returned (.bool (decide (r ≥ 0))) ∧ Drawn0 w w':=by
 have HR0:=Aside0.mk hr1
 have HHB:=Aside0.mk hhb
 have HTB:=Aside0.mk htb
 have HRL:=Aside0.mk hr0
 have H':=Aside0.mk hf
 clear hr1 hhb htb hr0 hf
 go_enter Try.func93,Try.ntmps93
 go_wp2_with (first | (go_at_call 96;(with_reducible refine (impl_Graph_body_1_ix.calls k hb tb A0 c0 h tx A1 c1 xs r w HHB.out HTB.out HRL.out HR0.out H'.out).mono ?_);rintro e w' ⟨rfl,⟨nd,rfl⟩⟩))
 go_ret
 exact ⟨rfl,by repeat (first | exact Drawn0.refl _ | apply Drawn0.step)⟩
def impl_Graph_body.l0 : Nat → List (List Int) → Int → List Int → List Bool → List Bool → Int → Option (List Int)
 | 0,_,_,_,_,_,_ => none
 | k + 1,g,h,st,all,inn,i => if i < (g.length : Int) then (if 0 ≤ i then (if i < (all.length : Int) then (if rdOf false all i = true then (if i = h then impl_Graph_body.l0 k g h st all inn (wrap64 (i + 1)) else ((impl_reach.f k g i [h]).bind fun tx => ((impl_Graph_body_1_ix.l0 k h tx st 0).bind fun j => (impl_Graph_body.l0 k g h st all (inn.set i.toNat (decide (j ≥ 0))) (wrap64 (i + 1)))))) else impl_Graph_body.l0 k g h st all inn (wrap64 (i + 1))) else none) else none) else impl_listOf.f k inn
def impl_Graph_body.f (k : Nat) (g : List (List Int)) (h : Int) (st : List Int) : Option (List Int):=if g.length ≤ 11728124029610 then ((impl_reach.f k g 0 []).bind fun all => (if 0 ≤ h then (if h < (g.length : Int) then impl_Graph_body.l0 k g h st all ((List.replicate g.length false).set h.toNat true) 0 else none) else none)) else none
theorem impl_Graph_body.mono_l : ∀ k,(∀ y0 y1 y2 y3 y4 y5,LeO (impl_Graph_body.l0 k y0 y1 y2 y3 y4 y5) (impl_Graph_body.l0 (k + 1) y0 y1 y2 y3 y4 y5))
 | 0 => fun _ _ _ _ _ _ r h => by simp [impl_Graph_body.l0] at h
 | k + 1 => by
  have ih0:=impl_Graph_body.mono_l k
  ·intro y0 y1 y2 y3 y4 y5
   unfold impl_Graph_body.l0
   repeat' first
   | (with_reducible exact ih0 _ _ _ _ _ _)
   | (with_reducible exact impl_reach.mono _ _ _ _)
   | (with_reducible exact impl_listOf.mono _ _)
   | (with_reducible exact impl_Graph_body_1_ix.mono _ _ _ _ _)
   | (with_reducible exact LeO.refl _)
   | (with_reducible exact LeO.none _)
   | (with_reducible refine LeO.ite ?_ ?_)
   | (with_reducible refine LeO.bind ?_ (fun _ => ?_))
theorem impl_Graph_body.mono : ∀ a0 a1 a2 k,LeO (impl_Graph_body.f k a0 a1 a2) (impl_Graph_body.f (k + 1) a0 a1 a2):=by
 intro a0 a1 a2 k
 have ih0:=impl_Graph_body.mono_l k
 unfold impl_Graph_body.f
 repeat' first
   | (with_reducible exact ih0 _ _ _ _ _ _)
   | (with_reducible exact impl_reach.mono _ _ _ _)
   | (with_reducible exact impl_listOf.mono _ _)
   | (with_reducible exact impl_Graph_body_1_ix.mono _ _ _ _ _)
   | (with_reducible exact LeO.refl _)
   | (with_reducible exact LeO.none _)
   | (with_reducible refine LeO.ite ?_ ?_)
   | (with_reducible refine LeO.bind ?_ (fun _ => ?_))
theorem box_new1 (w : World) (o1 o2 : Obj) : ((w.alloc o1).alloc o2).heap[w.heap.size + 1]? = some o2:=by
 have h:=heap_alloc_new (w.alloc o1) o2
 rwa [show (w.alloc o1).heap.size = w.heap.size + 1 by simp] at h
/-- What holds between the rounds. -/
structure BoInv (w W : World) (b : Nat) (A0 : Option Addr) (n c : Nat) (h : Int) (gi : Nat) (va : Value) (all inn : List Bool) : Prop where
 box : W.heap[b]? = some (.cells #[.slice A0 n c] 28 (0,0))
 hd : W.heap[w.heap.size]? = some (.cells #[.int .i64 h] 3 (0,0))
 below : Below w.heap.size w W
 all : Kd.R Kd.bool 4 W w.heap.size (fun k => k ≠ gi) va all
 inn : Kd.R Kd.bool 4 W w.heap.size (fun _ => True) (.slice (some ⟨gi,0,none⟩) n n) inn
 gib : w.heap.size < gi
 bl : b < w.heap.size
section
variable {w W W' : World} {b n c gi : Nat} {A0 : Option Addr} {h : Int} {va : Value} {all inn : List Bool}
theorem BoInv.step (H : BoInv w W b A0 n c h gi va all inn) (hb : Below W.heap.size W W') : BoInv w W' b A0 n c h gi va all inn :=
 ⟨blk_below H.box hb,blk_below H.hd hb,below_step H.below hb,Kd.R_below H.all hb,Kd.R_below H.inn hb,H.gib,H.bl⟩
theorem BoInv.put (H : BoInv w W b A0 n c h gi va all inn) (i : Int) (z : Bool) : BoInv w (W.setCell ⟨gi,i.toNat,none⟩ (.bool z)) b A0 n c h gi va all (inn.set i.toNat z) :=
 ⟨blk_far H.box (p:=⟨gi,i.toNat,none⟩) (by have:=H.gib;have:=H.bl;show b ≠ gi;omega) _,blk_far H.hd (p:=⟨gi,i.toNat,none⟩) (by have:=H.gib;show w.heap.size ≠ gi;omega) _,below_set H.below (by have:=H.gib;show w.heap.size ≤ gi;omega),Kd.R_far (p:=⟨gi,i.toNat,none⟩) H.all (fun k hk => hk) _,Kd.R_putn H.inn i z,H.gib,H.bl⟩
/-- The row is made first. -/
theorem BoInv.first (hgi : gi = W.heap.size) (hbox : w.heap[b]? = some (.cells #[.slice A0 n c] 28 (0,0))) (hn : n ≤ 281474976710656) (hw : Below (w.alloc (.cells #[.int .i64 h] 3)).heap.size (w.alloc (.cells #[.int .i64 h] 3)) W) (hb : Below (W.alloc (.cells (madeCells #[.bool false] n) 4)).heap.size (W.alloc (.cells (madeCells #[.bool false] n) 4)) W') (ho : Kd.R Kd.bool 4 W' (W.alloc (.cells (madeCells #[.bool false] n) 4)).heap.size (fun _ => True) va all) :
  BoInv w W' b A0 n c h gi va all (List.replicate n false):=by
 subst hgi
 have h1:=below_step (below_alloc (Below.refl w.heap.size w) (.cells #[.int .i64 h] 3)) hw
 have h2:=below_step h1 (below_alloc (Below.refl W.heap.size W) (.cells (madeCells #[.bool false] n) 4))
 have hs1:=hw.size
 have hs2 : w.heap.size < W.heap.size:=by rw [show (w.alloc (.cells #[.int .i64 h] 3)).heap.size = w.heap.size + 1 by simp] at hs1;omega
 refine ⟨blk_below hbox (below_step h2 hb),blk_below (blk_alloc (blk_below (heap_alloc_new w _) hw) _) hb,below_step h2 hb,?_,?_,hs2,blk_lt hbox⟩
 ·exact Kd.R_lower (Kd.R_mono (Kd.R_bound ho) (fun k hk => by have:=hk.2.1;simp at this;omega)) (by simp;omega)
 ·exact Kd.R_lower (Kd.R_below (R_made (β:=Bool) (enc:=Value.bool) (h1:=fun _ => rfl) false rfl 4 W n hn) hb) (by omega)
/-- The row is made last. -/
theorem BoInv.second (hbox : w.heap[b]? = some (.cells #[.slice A0 n c] 28 (0,0))) (hn : n ≤ 281474976710656) (hw : Below (w.alloc (.cells #[.int .i64 h] 3)).heap.size (w.alloc (.cells #[.int .i64 h] 3)) W) (hb : Below W.heap.size W W') (ho : Kd.R Kd.bool 4 W' W.heap.size (fun _ => True) va all) :
  BoInv w (W'.alloc (.cells (madeCells #[.bool false] n) 4)) b A0 n c h W'.heap.size va all (List.replicate n false):=by
 have h1:=below_step (below_alloc (Below.refl w.heap.size w) (.cells #[.int .i64 h] 3)) hw
 have h2:=below_step h1 hb
 have hs1:=hw.size
 have hs3:=hb.size
 have hs2 : w.heap.size < W.heap.size:=by rw [show (w.alloc (.cells #[.int .i64 h] 3)).heap.size = w.heap.size + 1 by simp] at hs1;omega
 refine ⟨blk_below hbox (below_alloc h2 _),blk_alloc (blk_below (blk_below (heap_alloc_new w _) hw) hb) _,below_alloc h2 _,?_,?_,by omega,blk_lt hbox⟩
 ·exact Kd.R_lower (Kd.R_below (Kd.R_mono (Kd.R_bound ho) (fun k hk => by have:=hk.2.2.1;omega)) (below_alloc (Below.refl _ _) _)) (by omega)
 ·exact Kd.R_lower (R_made (β:=Bool) (enc:=Value.bool) (h1:=fun _ => rfl) false rfl 4 W' n hn) (by omega)
end
/-- The box of the marks is written. -/
theorem BoInv.boxed {w wr W1 : World} {b n c gi tb base ct : Nat} {A0 At : Option Addr} {h : Int} {va : Value} {all inn tx : List Bool} (H : BoInv w wr b A0 n c h gi va all inn) (hW : Below wr.heap.size wr W1) (htb : wr.heap.size ≤ tb) (hbx : W1.heap[tb]? = some (.cells #[.slice none 0 0] 85 (0,0))) (hR : Kd.R Kd.bool 4 W1 base (fun k => k ≠ tb) (.slice At tx.length ct) tx) :
  Aside0 (BoInv w (W1.setCell ⟨tb,0,none⟩ (.slice At tx.length ct)) b A0 n c h gi va all inn) ∧ Aside0 ((W1.setCell ⟨tb,0,none⟩ (.slice At tx.length ct)).heap[tb]? = some (.cells #[.slice At tx.length ct] 85 (0,0))) ∧ Aside0 (Kd.C Kd.bool (W1.setCell ⟨tb,0,none⟩ (.slice At tx.length ct)) At tx.length tx) :=
 ⟨⟨H.step (hW.setCell (show wr.heap.size ≤ (⟨tb,0,none⟩ : Addr).block from htb) _)⟩,⟨blk_put hbx 0 _ rfl⟩,⟨(Kd.R_reads' (Kd.R_far (p:=⟨tb,0,none⟩) hR (fun k hk => hk) _)).2.2⟩⟩
set_option maxHeartbeats 8000000 in
set_option maxRecDepth 100000 in
theorem impl_Graph_body.calls (k : Nat) (b : Nat) (A0 : Option Addr) (c0 : Nat) (l0 : List (List Int)) (a1 : Int) (A2 : Option Addr) (c2 : Nat) (l2 : List Int) (r : List Int) (w : World) (hbox : w.heap[b]? = some (.cells #[.slice A0 l0.length c0] 28 (0,0))) (hr0 : Kd.C (Kd.slice 3 (Kd.int .i64)) w A0 l0.length l0) (hc0 : l0.length ≤ c0) (hr2 : Kd.C (Kd.int .i64) w A2 l2.length l2) (hc2 : l2.length ≤ c2) (h : impl_Graph_body.f k l0 a1 l2 = some r) :
  Calls Try.prog 79 #[.pointer (some ⟨b,0,none⟩),.int .i64 a1,.slice A2 l2.length c2] w fun e w' => ∃ v0_ : Value,e = .returned (v0_) ∧ Kd.R (Kd.int .i64) 3 w' w.heap.size (fun _ => True) v0_ r ∧ Below w.heap.size w w':=by
 have hu27:=Try.underlying28
 have HR0:=Aside0.mk hr0
 have HC0:=Aside0.mk hc0
 have HR2:=Aside0.mk hr2
 have HBX:=Aside0.mk hbox
 clear hr0 hc0 hbox hr2 hc2
 unfold impl_Graph_body.f at h
 by_cases c1 : l0.length ≤ 11728124029610
 rotate_left
 ·rw [if_neg c1] at h;exact absurd h (by simp)
 rw [if_pos c1] at h
 obtain ⟨all,A1,H⟩:=Option.bind_eq_some_iff.mp h
 by_cases c2 : 0 ≤ a1
 rotate_left
 ·rw [if_neg c2] at H;exact absurd H (by simp)
 rw [if_pos c2] at H
 by_cases c3 : a1 < (l0.length : Int)
 rotate_left
 ·rw [if_neg c3] at H;exact absurd H (by simp)
 rw [if_pos c3] at H
 have A:=Aside0.mk A1
 have H':=Aside0.mk H
 have HM:=Aside0.mk c1
 have QA:=Aside0.mk (And.intro c2 c3)
 clear h A1 H c1 c2 c3
 have hcz : (w.alloc (.cells #[.int .i64 a1] 3)).cell? ⟨b,0,none⟩ = some (.slice A0 l0.length c0):=(blk_cell (blk_alloc HBX.out _) 0).trans rfl
 have hczA : ((w.alloc (.cells #[.int .i64 a1] 3)).alloc (.cells (madeCells #[.bool false] l0.length) 4)).cell? ⟨b,0,none⟩ = some (.slice A0 l0.length c0):=(blk_cell (blk_alloc (blk_alloc HBX.out _) _) 0).trans rfl
 have hmk22:=fun W => run_make_row' (P:=Try.prog) 85 4 (.bool false) 1 Try.underlying85 (by kernel_rfl) rfl .i64 .i64 l0.length (by have:=HM.out;omega) (by have:=HM.out;omega) W
 go_enter Try.func79,Try.ntmps79
 go_upto_region 1 with (fail)
 go_cut [7,8] (fun v7 v8 wc => ∃ (gi : Nat),v8 = .slice (some ⟨gi,0,none⟩) l0.length l0.length ∧ Aside0 (BoInv w wc b A0 l0.length c0 a1 gi v7 all (List.replicate l0.length false)))
 case first =>
  go_region_with (go_at_call 90;refine (impl_reach.calls k _ _ l0 0 none 0 [] all _ (Kd.C_below HR0.out (by repeat (first | exact Below.refl _ _ | apply below_alloc | apply below_drew1))) HC0.out (Kd.C_nil _ _) (Nat.le_refl _) A.out).mono ?_;rintro e w3 ⟨va,rfl,ho,hb⟩;have hbw : Below w.heap.size w w3:=below_step (by repeat (first | exact Below.refl _ _ | apply below_alloc | apply below_drew1)) hb;have hcz3 : w3.cell? ⟨b,0,none⟩ = some (.slice A0 l0.length c0):=(blk_cell (blk_below HBX.out hbw) 0).trans rfl)
  all_goals go_wp2
  all_goals go_meet
  all_goals first
   | exact ⟨_,rfl,⟨BoInv.second HBX.out (by have:=HM.out;omega) (below_drew (Below.refl _ _)) hb ho⟩⟩
   | exact ⟨_,rfl,⟨BoInv.first (W:=w.alloc (.cells #[.int .i64 a1] 3)) (by simp) HBX.out (by have:=HM.out;omega) (Below.refl _ _) (below_then (below_drew (Below.refl _ _)) (Nat.le_refl _) hb) ho⟩⟩
 case rest =>
  obtain ⟨gi,rfl,HI⟩:=hcut
  obtain ⟨Ad,cd,ed⟩:=Kd.R_slice HI.out.all
  subst ed
  clear hmk22 hcz hczA
  have qa1:=QA.out.1
  have qa2:=QA.out.2
  obtain ⟨hx1,hf1⟩:=Kd.R_celln (false : Bool) HI.out.inn a1 qa1 qa2
  have hh3 : wc.cell? ⟨w.heap.size,0,none⟩ = some (.int .i64 a1):=(blk_cell HI.out.hd 0).trans rfl
  have HI2:=Aside0.mk (HI.out.put a1 true)
  have hcz3 : (wc.setCell ⟨gi,a1.toNat,none⟩ (.bool true)).cell? ⟨b,0,none⟩ = some (.slice A0 l0.length c0):=(blk_cell HI2.out.box 0).trans rfl
  have pa1:=eq_true qa1
  have pa2:=eq_true qa2
  have qb1 : decide (0 ≤ a1) = true:=decide_eq_true qa1
  have qb2 : decide (a1 < (l0.length : Int)) = true:=decide_eq_true qa2
  clear HI qa1 qa2
  go_wp2
  go_loopg [30] k (fun kq v30 w' => ∃ (inn : List Bool) (i : Int),v30 = .int .i64 i ∧ Aside0 (impl_Graph_body.l0 kq l0 a1 l2 all inn i = some r) ∧ Aside0 (kq ≤ k) ∧ Aside0 (BoInv w w' b A0 l0.length c0 a1 gi (.slice Ad all.length cd) all inn))
  case atStart => exact ⟨_,0,rfl,H',⟨Nat.le_refl _⟩,HI2⟩
  case round =>
   clear H' HI2 hx1 hf1 hh3 hcz3 pa1 pa2 qb1 qb2
   obtain ⟨inn,i,rfl,HA,HK1,HI⟩:=hrel
   have hcz3 : wr.cell? ⟨b,0,none⟩ = some (.slice A0 l0.length c0):=(blk_cell HI.out.box 0).trans rfl
   have hh3 : wr.cell? ⟨w.heap.size,0,none⟩ = some (.int .i64 a1):=(blk_cell HI.out.hd 0).trans rfl
   cases gk with
   | zero => exact absurd HA.out (by simp [impl_Graph_body.l0])
   | succ k1 =>
    have H:=HA.out
    clear HA
    simp only [impl_Graph_body.l0] at H
    by_cases c3 : i < (l0.length : Int)
    ·rw [if_pos c3] at H
     by_cases c4 : 0 ≤ i
     ·rw [if_pos c4] at H
      by_cases c5 : i < (all.length : Int)
      ·rw [if_pos c5] at H
       obtain ⟨ad,eA,hx0⟩:=Kd.at_bool (Kd.R_reads' HI.out.all).2.2 i c4 c5
       cases eA
       have q3 : decide (i < (l0.length : Int)) = true:=decide_eq_true c3
       have q4 : decide (0 ≤ i) = true:=decide_eq_true c4
       have p3:=eq_true c3
       have p4:=eq_true c4
       have p5:=eq_true c5
       by_cases c6 : rdOf false all i = true
       ·rw [if_pos c6] at H
        rw [c6] at hx0
        by_cases c7 : i = a1
        ·rw [if_pos c7] at H
         have H':=Aside0.mk H
         have q7 : (i == a1) = true:=by rw [c7];exact beq_self_eq_true a1
         have q8 : decide (i = a1) = true:=decide_eq_true c7
         clear H c3 c4 c5 c6 c7
         go_wp2
         go_roundg k1
         case measure => have:=HK1.out;omega
         case rel => exact ⟨inn,_,rfl,H',⟨by have:=HK1.out;omega⟩,HI⟩
        ·rw [if_neg c7] at H
         obtain ⟨tx,B1,H⟩:=Option.bind_eq_some_iff.mp H
         obtain ⟨j,B2,H⟩:=Option.bind_eq_some_iff.mp H
         have H':=Aside0.mk H
         have B:=Aside0.mk B1
         have C:=Aside0.mk B2
         have q7 : (i == a1) = false:=by simpa using c7
         have q8 : decide (i = a1) = false:=decide_eq_false c7
         have HC3:=Aside0.mk c3
         have HC4:=Aside0.mk c4
         clear H c3 c4 c5 c6 c7 B1 B2
         go_upto_region 7 with (fail)
         go_cut [10] (fun v10 wd => ∃ (tb : Nat) (At : Option Addr) (ct : Nat),v10 = .pointer (some ⟨tb,0,none⟩) ∧ Aside0 (BoInv w wd b A0 l0.length c0 a1 gi (.slice (some ad) all.length cd) all inn) ∧ Aside0 (wd.heap[tb]? = some (.cells #[.slice At tx.length ct] 85 (0,0))) ∧ Aside0 (Kd.C Kd.bool wd At tx.length tx))
         case first =>
          have HB0:=Aside0.mk (show Below wr.heap.size wr wr.drew from below_drew (Below.refl _ _))
          refine start_ (n:=10) (S:=fun w' => w'.cell? ⟨b,0,none⟩ = some (.slice A0 l0.length c0) ∧ w'.cell? ⟨w.heap.size,0,none⟩ = some (.int .i64 a1)) (ds:=[9]) #[false,false,false,false,false,false,false,false,false,false] (by kernel_rfl) rfl rfl ?_ (fun hHeld => ?_)
          ·exact ⟨(blk_cell (blk_below HI.out.box HB0.out) 0).trans rfl,(blk_cell (blk_below HI.out.hd HB0.out) 0).trans rfl⟩
          generalize hw8 : World.drew wr = w8 at HB0 hHeld ⊢
          clear hw8
          refine pure_ (i:=0) (N:=some 43) (v:=?_) (a':=?_) #[true,false,false,false,false,false,false,false,false,false] rfl rfl (by kernel_rfl) (fun _ _ _ h => h) (Or.inl ⟨by rfl,?_⟩) ?_ ?_
          rotate_left
          ·intro w'
           go_simp
           with_reducible rfl
          rotate_left
          ·simp only [Act.put,List.setIfInBounds_toArray,List.set_cons_zero,List.set_cons_succ,i64_w,i32_w]
           rfl
          refine pure_ (i:=1) (N:=some 44) (v:=?_) (a':=?_) #[true,true,false,false,false,false,false,false,false,false] rfl rfl (by kernel_rfl) (fun _ _ _ h => h) (Or.inl ⟨by rfl,?_⟩) ?_ ?_
          rotate_left
          ·intro w'
           go_simp
           with_reducible rfl
          rotate_left
          ·simp only [Act.put,List.setIfInBounds_toArray,List.set_cons_zero,List.set_cons_succ,i64_w,i32_w]
           rfl
          refine pure_ (i:=2) (N:=some 45) (v:=?_) (a':=?_) #[true,true,true,false,false,false,false,false,false,false] rfl rfl (by kernel_rfl) (fun _ _ _ h => h) (Or.inl ⟨by rfl,?_⟩) ?_ ?_
          rotate_left
          ·intro w'
           go_simp
           with_reducible rfl
          rotate_left
          ·simp only [Act.put,List.setIfInBounds_toArray,List.set_cons_zero,List.set_cons_succ,i64_w,i32_w]
           rfl
          refine pure_ (i:=4) (N:=some 47) (v:=?_) (a':=?_) #[true,true,true,false,true,false,false,false,false,false] rfl rfl (by kernel_rfl) (fun _ _ _ h => h) (Or.inl ⟨by rfl,?_⟩) ?_ ?_
          rotate_left
          ·intro w'
           go_simp
           with_reducible rfl
          rotate_left
          ·simp only [Act.put,List.setIfInBounds_toArray,List.set_cons_zero,List.set_cons_succ,i64_w,i32_w]
           rfl
          refine take_ (i:=3) (N:=some 46) (v:=?_) (a':=?_) #[true,true,true,true,true,false,false,false,false,false] rfl rfl (by kernel_rfl) (fun _ _ _ h => h) (Or.inl ⟨by rfl,?_⟩) hHeld ?_ ?_
          rotate_left
          ·rintro w' ⟨s0,s1⟩
           go_simp
           with_reducible rfl
          rotate_left
          ·simp only [Act.put,List.setIfInBounds_toArray,List.set_cons_zero,List.set_cons_succ,i64_w,i32_w]
           rfl
          refine take_ (i:=5) (N:=some 48) (v:=?_) (a':=?_) #[true,true,true,true,true,true,false,false,false,false] rfl rfl (by kernel_rfl) (fun _ _ _ h => h) (Or.inl ⟨by rfl,?_⟩) hHeld ?_ ?_
          rotate_left
          ·rintro w' ⟨s0,s1⟩
           go_simp
           with_reducible rfl
          rotate_left
          ·simp only [Act.put,List.setIfInBounds_toArray,List.set_cons_zero,List.set_cons_succ,i64_w,i32_w]
           rfl
          refine two_ (i:=6) (j:=8) (Ni:=some 49) (Nj:=some 10) #[true,true,true,true,true,true,true,false,false,false] #[true,true,true,true,true,true,false,false,true,false] rfl rfl rfl rfl (by kernel_rfl) (by decide) (by decide) (fun K hK => ?_) (fun K hK => ?_)
          ·skip
           refine value_ (w1:=?_) (v:=?_) (by rfl) rfl ?_ ?_
           rotate_left 2
           ·go_simp
            constructor
            ·rfl
            ·rfl
           obtain ⟨wv1,hwv⟩ : ∃ w_,w_ = w8.alloc (.cells #[.int .i64 a1] 3):=⟨_,rfl⟩
           rw [← hwv]
           have HB1:=Aside0.mk (show Below wr.heap.size wr wv1 by rw [hwv];exact below_alloc HB0.out _)
           have HL1:=Aside0.mk (show Kd.C (Kd.int .i64) wv1 (some ⟨w8.heap.size,0,none⟩) [a1].length [a1] by rw [hwv];exact C_lit1 _ _ _)
           clear hwv
           refine hK.out _ _ ?_ (fun hHeld => ?_)
           ·exact ⟨(blk_cell (blk_below HI.out.box HB1.out) 0).trans rfl,(blk_cell (blk_below HI.out.hd HB1.out) 0).trans rfl⟩
           clear hK K
           refine norm_ (a':=?_) ?_ ?_
           rotate_left
           ·show Act.put _ (some 49) _ = _
            simp only [Act.put,List.setIfInBounds_toArray,List.set_cons_zero,List.set_cons_succ,i64_w,i32_w]
            rfl
           refine two_ (i:=7) (j:=8) (Ni:=some 50) (Nj:=some 10) #[true,true,true,true,true,true,true,true,false,false] #[true,true,true,true,true,true,true,false,true,false] rfl rfl rfl rfl (by kernel_rfl) (by decide) (by decide) (fun K hK => ?_) (fun K hK => ?_)
           ·skip
            refine goes_ Try.func90 (by kernel_rfl) rfl #[.slice A0 l0.length c0,.int .i64 i,.slice (some ⟨w8.heap.size,0,none⟩) [a1].length 1] (by rfl) rfl rfl (by simp only [List.map_toArray,List.map_cons,List.map_nil];rfl) ?_
            with_reducible refine (impl_reach.calls k1 A0 c0 l0 i (some ⟨w8.heap.size,0,none⟩) 1 [a1] tx _ (Kd.C_below HR0.out (below_step HI.out.below HB1.out)) HC0.out HL1.out (Nat.le_refl _) B.out).mono ?_
            rintro e wv2 ⟨vt,rfl,ho,hb⟩
            obtain ⟨At,ct,et⟩:=Kd.R_slice ho
            subst et
            refine ⟨_,rfl,?_⟩
            have HB2:=Aside0.mk (show Below wr.heap.size wr wv2 from below_step HB1.out hb)
            have HR22:=Aside0.mk (show Kd.R Kd.bool 4 wv2 _ (fun _ => True) (.slice At tx.length ct) tx from ho)
            clear ho hb
            refine hK.out _ _ ?_ (fun hHeld => ?_)
            ·exact ⟨(blk_cell (blk_below HI.out.box HB2.out) 0).trans rfl,(blk_cell (blk_below HI.out.hd HB2.out) 0).trans rfl⟩
            clear hK K
            refine norm_ (a':=?_) ?_ ?_
            rotate_left
            ·show Act.put _ (some 50) _ = _
             simp only [Act.put,List.setIfInBounds_toArray,List.set_cons_zero,List.set_cons_succ,i64_w,i32_w]
             rfl
            refine one_ (i:=8) (N:=some 10) #[true,true,true,true,true,true,true,true,true,false] rfl rfl (by kernel_rfl) (by decide) (fun K hK => ?_)
            refine value_ (w1:=?_) (v:=?_) (by rfl) rfl ?_ ?_
            rotate_left 2
            ·go_simp
             constructor
             ·rfl
             ·rfl
            obtain ⟨wv3,hwv⟩ : ∃ w_,w_ = wv2.alloc (.cells #[.slice none 0 0] 85):=⟨_,rfl⟩
            rw [← hwv]
            have HB3:=Aside0.mk (show Below wr.heap.size wr wv3 by rw [hwv];exact below_alloc HB2.out _)
            have HX3:=Aside0.mk (show wv3.heap[wv2.heap.size]? = some (.cells #[.slice none 0 0] 85 (0,0)) by rw [hwv];exact heap_alloc_new _ _)
            have HR23:=Aside0.mk (show Kd.R Kd.bool 4 wv3 _ (fun k => k ≠ wv2.heap.size) (.slice At tx.length ct) tx by rw [hwv];exact Kd.R_below (Kd.R_mono (Kd.R_bound HR22.out) (fun k hk => Nat.ne_of_lt hk.2.2.1)) (below_alloc (Below.refl _ _) _))
            clear hwv
            refine hK.out _ _ ?_ (fun hHeld => ?_)
            ·exact ⟨(blk_cell (blk_below HI.out.box HB3.out) 0).trans rfl,(blk_cell (blk_below HI.out.hd HB3.out) 0).trans rfl⟩
            clear hK K
            refine norm_ (a':=?_) ?_ ?_
            rotate_left
            ·show Act.put _ (some 10) _ = _
             simp only [Act.put,List.setIfInBounds_toArray,List.set_cons_zero,List.set_cons_succ,i64_w,i32_w]
             rfl
            refine last_ (i:=9) (N:=none) #[true,true,true,true,true,true,true,true,true,true] rfl rfl (by kernel_rfl) (by decide) (fun K hK => ?_)
            have FIN:=BoInv.boxed (tb:=wv2.heap.size) HI.out HB3.out HB2.out.size HX3.out HR23.out
            have hcs:=((blk_cell HX3.out 0).trans rfl : wv3.cell? ⟨wv2.heap.size,0,none⟩ = some (.slice none 0 0))
            have hfs:=blk_frozen HX3.out 0
            refine skip_ (w1:=?_) (by rfl) rfl ?_ ?_
            rotate_left
            ·go_simp
             rfl
            refine hK.out _ _ ?_
            clear hK K
            refine done_ (by kernel_rfl) ?_
            go_wp2
            go_meet
            exact ⟨_,_,_,rfl,FIN⟩
           ·skip
            refine value_ (w1:=?_) (v:=?_) (by rfl) rfl ?_ ?_
            rotate_left 2
            ·go_simp
             constructor
             ·rfl
             ·rfl
            obtain ⟨wv2,hwv⟩ : ∃ w_,w_ = wv1.alloc (.cells #[.slice none 0 0] 85):=⟨_,rfl⟩
            rw [← hwv]
            have HB2:=Aside0.mk (show Below wr.heap.size wr wv2 by rw [hwv];exact below_alloc HB1.out _)
            have HL2:=Aside0.mk (show Kd.C (Kd.int .i64) wv2 (some ⟨w8.heap.size,0,none⟩) [a1].length [a1] by rw [hwv];exact Kd.C_alloc HL1.out _)
            have HX2:=Aside0.mk (show wv2.heap[wv1.heap.size]? = some (.cells #[.slice none 0 0] 85 (0,0)) by rw [hwv];exact heap_alloc_new _ _)
            clear hwv
            refine hK.out _ _ ?_ (fun hHeld => ?_)
            ·exact ⟨(blk_cell (blk_below HI.out.box HB2.out) 0).trans rfl,(blk_cell (blk_below HI.out.hd HB2.out) 0).trans rfl⟩
            clear hK K
            refine norm_ (a':=?_) ?_ ?_
            rotate_left
            ·show Act.put _ (some 10) _ = _
             simp only [Act.put,List.setIfInBounds_toArray,List.set_cons_zero,List.set_cons_succ,i64_w,i32_w]
             rfl
            refine one_ (i:=7) (N:=some 50) #[true,true,true,true,true,true,true,true,true,false] rfl rfl (by kernel_rfl) (by decide) (fun K hK => ?_)
            refine goes_ Try.func90 (by kernel_rfl) rfl #[.slice A0 l0.length c0,.int .i64 i,.slice (some ⟨w8.heap.size,0,none⟩) [a1].length 1] (by rfl) rfl rfl (by simp only [List.map_toArray,List.map_cons,List.map_nil];rfl) ?_
            with_reducible refine (impl_reach.calls k1 A0 c0 l0 i (some ⟨w8.heap.size,0,none⟩) 1 [a1] tx _ (Kd.C_below HR0.out (below_step HI.out.below HB2.out)) HC0.out HL2.out (Nat.le_refl _) B.out).mono ?_
            rintro e wv3 ⟨vt,rfl,ho,hb⟩
            obtain ⟨At,ct,et⟩:=Kd.R_slice ho
            subst et
            refine ⟨_,rfl,?_⟩
            have HB3:=Aside0.mk (show Below wr.heap.size wr wv3 from below_step HB2.out hb)
            have HX3:=Aside0.mk (show wv3.heap[wv1.heap.size]? = some (.cells #[.slice none 0 0] 85 (0,0)) from blk_below HX2.out hb)
            have HR23:=Aside0.mk (show Kd.R Kd.bool 4 wv3 _ (fun k => k ≠ wv1.heap.size) (.slice At tx.length ct) tx from Kd.R_mono (Kd.R_bound ho) (fun k hk => Nat.ne_of_gt (Nat.lt_of_lt_of_le (blk_lt HX2.out) hk.2.1)))
            clear ho hb
            refine hK.out _ _ ?_ (fun hHeld => ?_)
            ·exact ⟨(blk_cell (blk_below HI.out.box HB3.out) 0).trans rfl,(blk_cell (blk_below HI.out.hd HB3.out) 0).trans rfl⟩
            clear hK K
            refine norm_ (a':=?_) ?_ ?_
            rotate_left
            ·show Act.put _ (some 50) _ = _
             simp only [Act.put,List.setIfInBounds_toArray,List.set_cons_zero,List.set_cons_succ,i64_w,i32_w]
             rfl
            refine last_ (i:=9) (N:=none) #[true,true,true,true,true,true,true,true,true,true] rfl rfl (by kernel_rfl) (by decide) (fun K hK => ?_)
            have FIN:=BoInv.boxed (tb:=wv1.heap.size) HI.out HB3.out HB1.out.size HX3.out HR23.out
            have hcs:=((blk_cell HX3.out 0).trans rfl : wv3.cell? ⟨wv1.heap.size,0,none⟩ = some (.slice none 0 0))
            have hfs:=blk_frozen HX3.out 0
            refine skip_ (w1:=?_) (by rfl) rfl ?_ ?_
            rotate_left
            ·go_simp
             rfl
            refine hK.out _ _ ?_
            clear hK K
            refine done_ (by kernel_rfl) ?_
            go_wp2
            go_meet
            exact ⟨_,_,_,rfl,FIN⟩
          ·skip
           refine value_ (w1:=?_) (v:=?_) (by rfl) rfl ?_ ?_
           rotate_left 2
           ·go_simp
            constructor
            ·rfl
            ·rfl
           obtain ⟨wv1,hwv⟩ : ∃ w_,w_ = w8.alloc (.cells #[.slice none 0 0] 85):=⟨_,rfl⟩
           rw [← hwv]
           have HB1:=Aside0.mk (show Below wr.heap.size wr wv1 by rw [hwv];exact below_alloc HB0.out _)
           have HX1:=Aside0.mk (show wv1.heap[w8.heap.size]? = some (.cells #[.slice none 0 0] 85 (0,0)) by rw [hwv];exact heap_alloc_new _ _)
           clear hwv
           refine hK.out _ _ ?_ (fun hHeld => ?_)
           ·exact ⟨(blk_cell (blk_below HI.out.box HB1.out) 0).trans rfl,(blk_cell (blk_below HI.out.hd HB1.out) 0).trans rfl⟩
           clear hK K
           refine norm_ (a':=?_) ?_ ?_
           rotate_left
           ·show Act.put _ (some 10) _ = _
            simp only [Act.put,List.setIfInBounds_toArray,List.set_cons_zero,List.set_cons_succ,i64_w,i32_w]
            rfl
           refine one_ (i:=6) (N:=some 49) #[true,true,true,true,true,true,true,false,true,false] rfl rfl (by kernel_rfl) (by decide) (fun K hK => ?_)
           refine value_ (w1:=?_) (v:=?_) (by rfl) rfl ?_ ?_
           rotate_left 2
           ·go_simp
            constructor
            ·rfl
            ·rfl
           obtain ⟨wv2,hwv⟩ : ∃ w_,w_ = wv1.alloc (.cells #[.int .i64 a1] 3):=⟨_,rfl⟩
           rw [← hwv]
           have HB2:=Aside0.mk (show Below wr.heap.size wr wv2 by rw [hwv];exact below_alloc HB1.out _)
           have HL2:=Aside0.mk (show Kd.C (Kd.int .i64) wv2 (some ⟨wv1.heap.size,0,none⟩) [a1].length [a1] by rw [hwv];exact C_lit1 _ _ _)
           have HX2:=Aside0.mk (show wv2.heap[w8.heap.size]? = some (.cells #[.slice none 0 0] 85 (0,0)) by rw [hwv];exact blk_alloc HX1.out _)
           clear hwv
           refine hK.out _ _ ?_ (fun hHeld => ?_)
           ·exact ⟨(blk_cell (blk_below HI.out.box HB2.out) 0).trans rfl,(blk_cell (blk_below HI.out.hd HB2.out) 0).trans rfl⟩
           clear hK K
           refine norm_ (a':=?_) ?_ ?_
           rotate_left
           ·show Act.put _ (some 49) _ = _
            simp only [Act.put,List.setIfInBounds_toArray,List.set_cons_zero,List.set_cons_succ,i64_w,i32_w]
            rfl
           refine one_ (i:=7) (N:=some 50) #[true,true,true,true,true,true,true,true,true,false] rfl rfl (by kernel_rfl) (by decide) (fun K hK => ?_)
           refine goes_ Try.func90 (by kernel_rfl) rfl #[.slice A0 l0.length c0,.int .i64 i,.slice (some ⟨wv1.heap.size,0,none⟩) [a1].length 1] (by rfl) rfl rfl (by simp only [List.map_toArray,List.map_cons,List.map_nil];rfl) ?_
           with_reducible refine (impl_reach.calls k1 A0 c0 l0 i (some ⟨wv1.heap.size,0,none⟩) 1 [a1] tx _ (Kd.C_below HR0.out (below_step HI.out.below HB2.out)) HC0.out HL2.out (Nat.le_refl _) B.out).mono ?_
           rintro e wv3 ⟨vt,rfl,ho,hb⟩
           obtain ⟨At,ct,et⟩:=Kd.R_slice ho
           subst et
           refine ⟨_,rfl,?_⟩
           have HB3:=Aside0.mk (show Below wr.heap.size wr wv3 from below_step HB2.out hb)
           have HX3:=Aside0.mk (show wv3.heap[w8.heap.size]? = some (.cells #[.slice none 0 0] 85 (0,0)) from blk_below HX2.out hb)
           have HR23:=Aside0.mk (show Kd.R Kd.bool 4 wv3 _ (fun k => k ≠ w8.heap.size) (.slice At tx.length ct) tx from Kd.R_mono (Kd.R_bound ho) (fun k hk => Nat.ne_of_gt (Nat.lt_of_lt_of_le (blk_lt HX2.out) hk.2.1)))
           clear ho hb
           refine hK.out _ _ ?_ (fun hHeld => ?_)
           ·exact ⟨(blk_cell (blk_below HI.out.box HB3.out) 0).trans rfl,(blk_cell (blk_below HI.out.hd HB3.out) 0).trans rfl⟩
           clear hK K
           refine norm_ (a':=?_) ?_ ?_
           rotate_left
           ·show Act.put _ (some 50) _ = _
            simp only [Act.put,List.setIfInBounds_toArray,List.set_cons_zero,List.set_cons_succ,i64_w,i32_w]
            rfl
           refine last_ (i:=9) (N:=none) #[true,true,true,true,true,true,true,true,true,true] rfl rfl (by kernel_rfl) (by decide) (fun K hK => ?_)
           have FIN:=BoInv.boxed (tb:=w8.heap.size) HI.out HB3.out HB0.out.size HX3.out HR23.out
           have hcs:=((blk_cell HX3.out 0).trans rfl : wv3.cell? ⟨w8.heap.size,0,none⟩ = some (.slice none 0 0))
           have hfs:=blk_frozen HX3.out 0
           refine skip_ (w1:=?_) (by rfl) rfl ?_ ?_
           rotate_left
           ·go_simp
            rfl
           refine hK.out _ _ ?_
           clear hK K
           refine done_ (by kernel_rfl) ?_
           go_wp2
           go_meet
           exact ⟨_,_,_,rfl,FIN⟩
         case rest =>
          obtain ⟨tb,At,ct,rfl,HI,HT,HCT⟩:=hcut
          have hi1:=HC3.out
          have hi2:=HC4.out
          go_wp2_with (go_at_call 93;refine (impl_Graph_body_1_cf.calls k1 w.heap.size tb At ct a1 tx A2 c2 l2 j _ HI.out.hd HT.out HCT.out (Kd.C_below HR2.out HI.out.below) C.out).mono ?_;rintro e w5 ⟨rfl,⟨nd,hw5⟩⟩;have HI4:=Aside0.mk (HI.out.step (show Below wc.heap.size wc w5 by rw [hw5];exact pw_below_drewN (Below.refl _ _) _));clear hw5 HI;obtain ⟨hx1,hf1⟩:=Kd.R_celln (false : Bool) HI4.out.inn i hi2 hi1;have HI5:=Aside0.mk (HI4.out.put i (decide (j ≥ 0)));clear HI4)
          go_roundg k1
          case measure => have:=HK1.out;omega
          case rel => exact ⟨_,_,rfl,H',⟨by have:=HK1.out;omega⟩,HI5⟩
       ·rw [if_neg c6] at H
        have c6' : rdOf false all i = false:=by simpa using c6
        rw [c6'] at hx0
        have H':=Aside0.mk H
        clear H c3 c4 c5 c6 c6'
        go_wp2
        go_roundg k1
        case measure => have:=HK1.out;omega
        case rel => exact ⟨inn,_,rfl,H',⟨by have:=HK1.out;omega⟩,HI⟩
      ·rw [if_neg c5] at H;exact absurd H (by simp)
     ·rw [if_neg c4] at H;exact absurd H (by simp)
    ·rw [if_neg c3] at H
     have H':=Aside0.mk H
     have q3 : decide (i < (l0.length : Int)) = false:=decide_eq_false c3
     clear H c3
     have hil:=(Kd.R_reads' HI.out.inn).1
     have hsl : (Value.slice (some ⟨gi,0,none⟩) l0.length l0.length) = Value.slice (some ⟨gi,0,none⟩) inn.length l0.length:=by rw [← hil]
     have HCI:=Aside0.mk (show Kd.C Kd.bool wr (some ⟨gi,0,none⟩) inn.length inn from hil ▸ (Kd.R_reads' HI.out.inn).2.2)
     have HLI:=Aside0.mk (show inn.length ≤ l0.length by omega)
     clear hil
     go_wp2_with (go_at_call 67;rw [hsl];refine (impl_listOf.calls k1 (some ⟨gi,0,none⟩) l0.length inn r _ HCI.out HLI.out H'.out).mono ?_;rintro e w4 ⟨vl,rfl,ho,hb⟩;have HB4:=Aside0.mk (below_step HI.out.below hb);have HO:=Aside0.mk (Kd.R_lower ho HI.out.below.size);clear ho hb)
     go_ret
     exact ⟨_,rfl,HO.out,HB4.out⟩

-- NOT PRINTED: function 95 (impl_holdsAll_1)

/-! ### impl_holdsAll: function 80 (by hand: a literal that captures a row) -/
/-- The literal: whether a number is not in the row. -/
def impl_holdsAll_1.f (k : Nat) (l : List Int) (y : Int) : Option Bool:=(slices_Contains_int_int.f k l y).bind fun t => some (!t)
theorem impl_holdsAll_1.mono : ∀ a0 a1 k,LeO (impl_holdsAll_1.f k a0 a1) (impl_holdsAll_1.f (k + 1) a0 a1):=fun _ _ _ => LeO.bind (slices_Contains_int_int.mono _ _ _) (fun _ => LeO.refl _)
set_option maxHeartbeats 8000000 in
set_option maxRecDepth 100000 in
theorem impl_holdsAll_1.calls (k : Nat) (b : Nat) (A0 : Option Addr) (c0 : Nat) (l : List Int) (y : Int) (r : Bool) (w : World) (hbox : w.heap[b]? = some (.cells #[.slice A0 l.length c0] 43 (0,0))) (hr0 : Kd.C (Kd.int .i64) w A0 l.length l) (hc0 : l.length ≤ c0) (h : impl_holdsAll_1.f k l y = some r) :
  Calls Try.prog 95 #[.int .i64 y,.pointer (some ⟨b,0,none⟩)] w fun e w' => e = .returned (.bool r) ∧ Drawn0 w w':=by
 have HR0:=Aside0.mk hr0
 have HC0:=Aside0.mk hc0
 obtain ⟨t,A1_,H⟩:=Option.bind_eq_some_iff.mp h
 obtain rfl:=Option.some.inj H
 have A:=Aside0.mk A1_
 clear hr0 hc0 h H A1_
 have hcz : w.cell? ⟨b,0,none⟩ = some (.slice A0 l.length c0):=(blk_cell hbox 0).trans rfl
 have hfz:=blk_frozen hbox 0
 clear hbox
 cases t <;>
 ·go_enter Try.func95,Try.ntmps95
  go_wp2_with (first | (go_at_call 50;(with_reducible refine (slices_Contains_int_int.calls k A0 c0 l y _ w HR0.out HC0.out A.out).mono ?_);rintro e w' ⟨rfl,⟨nd,rfl⟩⟩))
  go_ret
  exact ⟨rfl,⟨nd,rfl⟩⟩
/-- slices.IndexFunc with that literal. -/
def impl_holdsAll_1_ix.l0 : Nat → List Int → List Int → Int → Option Int
 | 0,_,_,_ => none
 | k + 1,l,xs,i => if i < (xs.length : Int) then (if 0 ≤ i then ((impl_holdsAll_1.f k l (rd xs i)).bind fun t => (if t = true then (some i) else (impl_holdsAll_1_ix.l0 k l xs (wrap64 (i + 1))))) else none) else some (-1)
theorem impl_holdsAll_1_ix.mono_l : ∀ k,∀ y0 y1 y2,LeO (impl_holdsAll_1_ix.l0 k y0 y1 y2) (impl_holdsAll_1_ix.l0 (k + 1) y0 y1 y2)
 | 0 => fun _ _ _ r h => by simp [impl_holdsAll_1_ix.l0] at h
 | k + 1 => by
  have ih0:=impl_holdsAll_1_ix.mono_l k
  intro y0 y1 y2
  unfold impl_holdsAll_1_ix.l0
  repeat' first
   | (with_reducible exact ih0 _ _ _)
   | (with_reducible exact impl_holdsAll_1.mono _ _ _)
   | (with_reducible exact LeO.refl _)
   | (with_reducible exact LeO.none _)
   | (with_reducible refine LeO.ite ?_ ?_)
   | (with_reducible refine LeO.bind ?_ (fun _ => ?_))
theorem impl_holdsAll_1_ix.mono : ∀ y0 y1 y2 k,LeO (impl_holdsAll_1_ix.l0 k y0 y1 y2) (impl_holdsAll_1_ix.l0 (k + 1) y0 y1 y2):=fun y0 y1 y2 k => impl_holdsAll_1_ix.mono_l k y0 y1 y2
set_option maxHeartbeats 8000000 in
set_option maxRecDepth 100000 in
theorem impl_holdsAll_1_ix.calls (k : Nat) (b : Nat) (A0 : Option Addr) (c0 : Nat) (l : List Int) (A1 : Option Addr) (c1 : Nat) (xs : List Int) (r : Int) (w : World) (hbox : w.heap[b]? = some (.cells #[.slice A0 l.length c0] 43 (0,0))) (hr0 : Kd.C (Kd.int .i64) w A0 l.length l) (hc0 : l.length ≤ c0) (hr1 : Kd.C (Kd.int .i64) w A1 xs.length xs) (h : impl_holdsAll_1_ix.l0 k l xs 0 = some r) :
  Calls Try.prog 96 #[.slice A1 xs.length c1,.func (.func 95) #[] #[.pointer (some ⟨b,0,none⟩)]] w fun e w' => e = .returned (.int .i64 r) ∧ Drawn0 w w':=by
 have HR0:=Aside0.mk hr1
 have HBX:=Aside0.mk hbox
 have HRL:=Aside0.mk hr0
 have HCL:=Aside0.mk hc0
 have H':=Aside0.mk h
 clear hr1 hbox hr0 hc0 h
 go_enter Try.func96,Try.ntmps96
 go_wp2
 go_loopg [8] k (fun kq v8 w' => ∃ (x8_1 : Int),v8 = .int .i64 x8_1 ∧ Aside0 (impl_holdsAll_1_ix.l0 kq l xs x8_1 = some r) ∧ Aside0 (kq ≤ k) ∧ Drawn0 w w')
 case atStart => exact ⟨0,rfl,H',⟨Nat.le_refl _⟩,Drawn0.refl _⟩
 case round =>
  clear H'
  obtain ⟨x8_1,rfl,HA,HK1,⟨m1,rfl⟩⟩:=hrel
  cases gk with
  | zero => exact absurd HA.out (by simp [impl_holdsAll_1_ix.l0])
  | succ k1 =>
   have H:=HA.out
   clear HA
   simp only [impl_holdsAll_1_ix.l0] at H
   by_cases c3 : x8_1 < (xs.length : Int)
   ·rw [if_pos c3] at H
    have c3b0 : decide (x8_1 < (xs.length : Int)) = true:=decide_eq_true c3
    by_cases c4 : 0 ≤ x8_1
    ·rw [if_pos c4] at H
     have c4b0 : decide (0 ≤ x8_1) = true:=decide_eq_true c4
     obtain ⟨t,A60,H⟩:=Option.bind_eq_some_iff.mp H
     obtain ⟨ad,eA,hx0⟩:=Kd.at_int HR0.out x8_1 c4 c3
     obtain ⟨y,hy⟩ : ∃ y,y = rd xs x8_1:=⟨_,rfl⟩
     rw [← hy] at hx0 A60
     cases eA
     have A6:=Aside0.mk A60
     clear A60 hy
     have p3:=eq_true c3
     have p4:=eq_true c4
     clear c3 c4
     cases t with
     | true =>
      rw [if_pos rfl] at H
      obtain rfl:=Option.some.inj H
      go_wp2_with (first | (go_at_call 95;(with_reducible refine (impl_holdsAll_1.calls k1 b A0 c0 l y true _ (blk_drewN HBX.out _) (Kd.C_drewN HRL.out _) HCL.out A6.out).mono ?_);rintro e w' ⟨rfl,⟨nd,rfl⟩⟩))
      go_ret
      exact ⟨rfl,by repeat (first | exact Drawn0.refl _ | apply Drawn0.step)⟩
     | false =>
      rw [if_neg (by decide)] at H
      have H':=Aside0.mk H
      clear H
      go_wp2_with (first | (go_at_call 95;(with_reducible refine (impl_holdsAll_1.calls k1 b A0 c0 l y false _ (blk_drewN HBX.out _) (Kd.C_drewN HRL.out _) HCL.out A6.out).mono ?_);rintro e w' ⟨rfl,⟨nd,rfl⟩⟩))
      go_roundg k1
      case measure => have:=HK1.out;omega
      case rel => exact ⟨(wrap64 (x8_1 + 1)),rfl,H',⟨by have:=HK1.out;omega⟩,by repeat (first | exact Drawn0.refl _ | apply Drawn0.step)⟩
    ·rw [if_neg c4] at H
     exact absurd H (by simp)
   ·rw [if_neg c3] at H
    have c3b0 : decide (x8_1 < (xs.length : Int)) = false:=decide_eq_false c3
    clear c3
    obtain rfl:=Option.some.inj H
    go_wp2
    go_ret
    exact ⟨rfl,by repeat (first | exact Drawn0.refl _ | apply Drawn0.step)⟩
set_option maxHeartbeats 8000000 in
set_option maxRecDepth 100000 in
theorem impl_holdsAll_1_cf.calls (k : Nat) (b : Nat) (A0 : Option Addr) (c0 : Nat) (l : List Int) (A1 : Option Addr) (c1 : Nat) (xs : List Int) (r : Int) (w : World) (hbox : w.heap[b]? = some (.cells #[.slice A0 l.length c0] 43 (0,0))) (hr0 : Kd.C (Kd.int .i64) w A0 l.length l) (hc0 : l.length ≤ c0) (hr1 : Kd.C (Kd.int .i64) w A1 xs.length xs) (h : impl_holdsAll_1_ix.l0 k l xs 0 = some r) :
  Calls Try.prog 93 #[.slice A1 xs.length c1,.func (.func 95) #[] #[.pointer (some ⟨b,0,none⟩)]] w fun e w' => e = .returned (.bool (decide (r ≥ 0))) ∧ Drawn0 w w':=by
 have HR0:=Aside0.mk hr1
 have HBX:=Aside0.mk hbox
 have HRL:=Aside0.mk hr0
 have HCL:=Aside0.mk hc0
 have H':=Aside0.mk h
 clear hr1 hbox hr0 hc0 h
 go_enter Try.func93,Try.ntmps93
 go_wp2_with (first | (go_at_call 96;(with_reducible refine (impl_holdsAll_1_ix.calls k b A0 c0 l A1 c1 xs r w HBX.out HRL.out HCL.out HR0.out H'.out).mono ?_);rintro e w' ⟨rfl,⟨nd,rfl⟩⟩))
 go_ret
 exact ⟨rfl,by repeat (first | exact Drawn0.refl _ | apply Drawn0.step)⟩
def impl_holdsAll.f (k : Nat) (l m : List Int) : Option Bool:=(impl_holdsAll_1_ix.l0 k l m 0).bind fun i => some (!decide (i ≥ 0))
theorem impl_holdsAll.mono : ∀ a0 a1 k,LeO (impl_holdsAll.f k a0 a1) (impl_holdsAll.f (k + 1) a0 a1):=fun _ _ _ => LeO.bind (impl_holdsAll_1_ix.mono_l _ _ _ _) (fun _ => LeO.refl _)
set_option maxHeartbeats 8000000 in
set_option maxRecDepth 100000 in
theorem impl_holdsAll.calls (k : Nat) (A0 : Option Addr) (c0 : Nat) (l0 : List Int) (A1 : Option Addr) (c1 : Nat) (l1 : List Int) (r : Bool) (w : World) (hr0 : Kd.C (Kd.int .i64) w A0 l0.length l0) (hc0 : l0.length ≤ c0) (hr1 : Kd.C (Kd.int .i64) w A1 l1.length l1) (hc1 : l1.length ≤ c1) (h : impl_holdsAll.f k l0 l1 = some r) :
  Calls Try.prog 80 #[.slice A0 l0.length c0,.slice A1 l1.length c1] w fun e w' => e = .returned (.bool r) ∧ Below w.heap.size w w':=by
 have HR0:=Aside0.mk hr0
 have HC0:=Aside0.mk hc0
 have HR1:=Aside0.mk hr1
 clear hr0 hc0 hr1 hc1
 unfold impl_holdsAll.f at h
 obtain ⟨i,A1_,H⟩:=Option.bind_eq_some_iff.mp h
 obtain rfl:=Option.some.inj H
 have A:=Aside0.mk A1_
 have HBX:=Aside0.mk (heap_alloc_new w (.cells #[.slice A0 l0.length c0] 43))
 have HB:=Aside0.mk (below_alloc (Below.refl w.heap.size w) (.cells #[.slice A0 l0.length c0] 43))
 clear h A1_ H
 go_enter Try.func80,Try.ntmps80
 go_wp2_with (first | (go_at_call 93;(refine (impl_holdsAll_1_cf.calls k _ A0 c0 l0 A1 c1 l1 i _ HBX.out (Kd.C_alloc HR0.out _) HC0.out (Kd.C_alloc HR1.out _) A.out).mono ?_);rintro e w2 ⟨rfl,⟨nd,rfl⟩⟩))
 go_ret
 exact ⟨rfl,by repeat (first | (with_reducible first | exact HB.out | apply below_alloc | apply pw_below_drewN | apply below_drew1) | exact HB.out)⟩

end Go.Proofs.Ytbmnoenbhlfjaaa.Q
