-- WRITTEN BY A PROGRAM OF THIS SESSION
import Derived.Test.YtbmnoenbhlfjaaaQ0
import Derived.Test.YtbmnoenbhlfjaaaQ1
import Derived.Test.YtbmnoenbhlfjaaaQ6
import Derived.Test.YtbmnoenbhlfjaaaQ13
import Derived.Test.YtbmnoenbhlfjaaaWMiN
namespace Go.Proofs.Ytbmnoenbhlfjaaa.Q
open Go.RowKit Go.Proofs.YtbmnoenbhlfjaaaW.PrintWords Go.Proofs.YtbmnoenbhlfjaaaW.PrintLast Go.Proofs.YtbmnoenbhlfjaaaW.PrintMore
attribute [local go_sem] max2_int min2_int max_two min_two max_three min_three max_four min_four   -- for this text's walks alone
set_option linter.unusedVariables false
set_option linter.unusedSimpArgs false

/-! ### laws_markIntS: function 31 -/
def laws_markIntS.l0 : Nat → List Int → Int → Int → Option (Int × List Int)
 | 0,_,_,_ => none
 | k + 1,x0,x1,x5 => if x5 < (x0.length : Int) then (if 0 ≤ x5 then (laws_markIntS.l0 k (x0.set (x5 : Int).toNat x1) (wrap64 (x1 + 1)) (wrap64 (x5 + 1))) else (none)) else (some (x1,x0))
def laws_markIntS.f (k : Nat) (l0 : List Int) (a1 : Int) : Option (Int × List Int):=laws_markIntS.l0 k l0 a1 0
theorem laws_markIntS.mono_l : ∀ k,(∀ y0 y1 y2,LeO (laws_markIntS.l0 k y0 y1 y2) (laws_markIntS.l0 (k + 1) y0 y1 y2))
 | 0 => fun _ _ _ r h => by simp [laws_markIntS.l0] at h
 | k + 1 => by
  have ih0:=laws_markIntS.mono_l k
  ·intro y0 y1 y2
   unfold laws_markIntS.l0
   repeat' first
   | (with_reducible exact ih0 _ _ _)
   | (with_reducible exact LeO.refl _)
   | (with_reducible exact LeO.none _)
   | (with_reducible refine LeO.ite ?_ ?_)
   | (with_reducible refine LeO.bind ?_ (fun _ => ?_))
   | exact ih0 _ _ _
   | exact LeO.none _
   | refine LeO.ite ?_ ?_
   | refine LeO.bind ?_ (fun _ => ?_)
theorem laws_markIntS.mono : ∀ a0 a1 k,LeO (laws_markIntS.f k a0 a1) (laws_markIntS.f (k + 1) a0 a1):=by
 intro a0 a1 k
 have ih0:=laws_markIntS.mono_l k
 unfold laws_markIntS.f
 repeat' first
   | (with_reducible exact ih0 _ _ _)
   | (with_reducible exact LeO.refl _)
   | (with_reducible exact LeO.none _)
   | (with_reducible refine LeO.ite ?_ ?_)
   | (with_reducible refine LeO.bind ?_ (fun _ => ?_))
   | exact ih0 _ _ _
   | exact LeO.none _
   | refine LeO.ite ?_ ?_
   | refine LeO.bind ?_ (fun _ => ?_)
set_option maxHeartbeats 8000000 in
set_option maxRecDepth 100000 in
theorem laws_markIntS.calls (k : Nat) (P0_ : Nat → Prop) (u9000_ : Value) (l0 : List Int) (a1 : Int) (r1 : Int) (r2 : List Int) (w0 w : World) (hB : Below w0.heap.size w0 w) (ho0 : Kd.R (Kd.int .i64) 3 w w0.heap.size P0_ u9000_ l0) (h : laws_markIntS.f k l0 a1 = some (r1,r2)) :
  Calls Try.prog 31 #[u9000_,.int .i64 a1] w fun e w' => e = .returned (.int .i64 r1) ∧ Kd.R (Kd.int .i64) 3 w' w0.heap.size (fun k_ => (P0_ k_ ∨ w.heap.size ≤ k_)) u9000_ r2 ∧ Below w0.heap.size w0 w' ∧ Kept w w' (fun k_ => P0_ k_):=by
 have HO0:=Aside0.mk (show Kd.R (Kd.int .i64) 3 w w0.heap.size (fun k_ => (P0_ k_ ∨ w.heap.size ≤ k_)) u9000_ l0 from Kd.R_mono ho0 (fun k_ hk => (.inl hk)))
 have HK:=Aside0.mk (Kept.refl w (fun k_ => P0_ k_))
 have HW0:=Aside0.mk hB.size
 have HB:=Aside0.mk hB
 clear hB
 have H : (laws_markIntS.l0 k l0 a1 0) = some (r1,r2):=h
 clear h
 have H':=Aside0.mk H
 clear H
 go_enter Try.func31,Try.ntmps31
 go_wp2
 go_loopg [1,5] k (fun kq v1 v5 w' => ∃ (x0_1 : List Int) (x1_1 : Int) (x5_1 : Int),v1 = .int .i64 x1_1 ∧ v5 = .int .i64 x5_1 ∧ Aside0 (laws_markIntS.l0 kq x0_1 x1_1 x5_1 = some (r1,r2)) ∧ Aside0 (kq ≤ k) ∧ Aside0 (Kd.R (Kd.int .i64) 3 w' w0.heap.size (fun k_ => (P0_ k_ ∨ w.heap.size ≤ k_)) u9000_ x0_1) ∧ Aside0 (Kept w w' (fun k_ => P0_ k_)) ∧ Aside0 (Below w0.heap.size w0 w'))
 case atStart => exact ⟨(l0),(a1),(0),(by first | rfl | (simp;done) | (simp [*];done)),(by first | rfl | (simp;done) | (simp [*];done)),H',⟨Nat.le_refl _⟩,⟨by (with_reducible repeat (first | apply Kd.R_alloc | apply Kd.R_drewN | apply Kd.R_drew));exact HO0.out⟩,⟨by repeat (first | (with_reducible first | exact HK.out | apply Kept.alloc | apply Kept.drewN | apply Kept.drew) | exact HK.out)⟩,⟨by repeat (first | (with_reducible first | exact HB.out | apply below_alloc | apply pw_below_drewN | apply below_drew1) | exact HB.out)⟩⟩
 case round =>
  clear H'
  try clear p2
  obtain ⟨x0_1,x1_1,x5_1,rfl,rfl,HA,HK1,HO_0,HK,HB⟩:=hrel
  cases gk with
  | zero => exact absurd HA.out (by simp [laws_markIntS.l0])
  | succ k1 =>
   have H:=HA.out
   clear HA
   simp only [laws_markIntS.l0] at H
   by_cases c3 : x5_1 < (x0_1.length : Int)
   ·rw [if_pos c3] at H
    have c3b0 : decide (x5_1 < (x0_1.length : Int)) = true:=decide_eq_true c3
    clear c3
    by_cases c4 : 0 ≤ x5_1
    ·rw [if_pos c4] at H
     have c4b0 : decide (0 ≤ x5_1) = true:=decide_eq_true c4
     clear c4
     obtain ⟨y270,hy270⟩ : ∃ y_ : List Int,y_ = (x0_1.set (x5_1 : Int).toNat x1_1):=⟨_,rfl⟩
     replace H : (laws_markIntS.l0 k1 y270 (wrap64 (x1_1 + 1)) (wrap64 (x5_1 + 1))) = some (r1,r2):=by first | (rw [hy270];with_reducible exact H) | (have H2_:=(Option.bind_some _ _).symm.trans H;rw [hy270];with_reducible exact H2_) | (have H2_:=(Option.bind_some _ _).symm.trans H;with_reducible exact H2_) | with_reducible exact H | (rw [hy270];exact H) | exact H
     have Ny270:=Aside0.mk hy270
     clear hy270
     have H':=Aside0.mk H
     clear H
     obtain ⟨Ao6,co6,eo6⟩:=Kd.R_slice HO_0.out
     subst eo6
     have p5 : 0 ≤ (x5_1 : Int):=of_decide_eq_true (by first | (with_reducible assumption) | assumption)
     have q5 : (x5_1 : Int) < ((x0_1.length : Int) : Int):=of_decide_eq_true (by first | (with_reducible assumption) | assumption)
     obtain ⟨go5,co5,eo5,gb5,gl5,cl5,HG5⟩:=Kd.R_form HO_0.out (by omega)
     (first | cases eo5 | (injection eo5 with ea_ en_ ec_;(first | subst ea_ | (injection ea_ with ea_;subst ea_));subst ec_;clear en_))
     have GB5:=Aside0.mk gb5
     have GG5:=Aside0.mk HG5
     clear gb5 gl5 HG5
     have HMgo5:=Aside0.mk (show (P0_ go5 ∨ w.heap.size ≤ go5) from (HO_0.out.1 _ rfl))
     obtain ⟨hx5_0,hf5_0⟩:=Kd.R_celln 0 HO_0.out (x5_1 : Int) p5 q5
     replace p5:=eq_true p5
     replace q5:=eq_true q5
     have HP7:=Kd.R_putg HO_0.out (x5_1 : Int) x1_1
     go_wp2_with (first | ((with_reducible refine gate_store (t:=3) (p:=15) rfl ?_);refine store_event (t:=3) (p:=15) (v:=?vo_w8) (w1:=(wr.setCell ⟨go5,(x5_1 : Int).toNat,none⟩ (.int .i64 x1_1))) ?hg ?ho ?hn ?hr ?_;(case ho => rfl);(case hg => rfl);(case hn => rfl);(case hr => first | (go_simp;done) | (go_simp;rfl));intro w8 hw;have hg : wr.grownBy w8 (some go5):=(by rw [hw];exact HP7.2);have hp_ : Kd.R (Kd.int .i64) 3 w8 w0.heap.size (fun k_ => (P0_ k_ ∨ w.heap.size ≤ k_)) (.slice (some ⟨go5,0,none⟩) x0_1.length co6) y270:=(by rw [hw,Ny270.out];exact HP7.1);clear HP7;have n0_:=Aside0.mk (hp_);have n1_:=Aside0.mk ((by rw [hw];exact below_set (HB.out) GB5.out : Below w0.heap.size w0 w8));have n2_:=Aside0.mk (Kept.of_grown (S:=(fun k_ => P0_ k_)) hg (by repeat (first | (with_reducible first | exact HK.out | apply Kept.alloc | apply Kept.drewN | apply Kept.drew) | exact HK.out)) (fun k_ e_ => (HO_0.out.1 k_ e_)));clear HO_0;clear HB;clear HK;have HO_0:=n0_;have HB:=n1_;have HK:=n2_;clear n0_ n1_ n2_;clear hg hw hp_))
     go_roundg k1
     case measure => have:=HK1.out;omega
     case rel => exact ⟨(y270),(wrap64 (x1_1 + 1)),(wrap64 (x5_1 + 1)),(by first | rfl | (simp;done) | (simp [*];done)),(by first | rfl | (simp;done) | (simp [*];done)),H',⟨by have:=HK1.out;omega⟩,⟨by (with_reducible repeat (first | apply Kd.R_alloc | apply Kd.R_drewN | apply Kd.R_drew));exact HO_0.out⟩,⟨by repeat (first | (with_reducible first | exact HK.out | apply Kept.alloc | apply Kept.drewN | apply Kept.drew) | exact HK.out)⟩,⟨by repeat (first | (with_reducible first | exact HB.out | apply below_alloc | apply pw_below_drewN | apply below_drew1) | exact HB.out)⟩⟩
    ·rw [if_neg c4] at H
     exact absurd H (by simp)
   ·rw [if_neg c3] at H
    have c3b0 : decide (x5_1 < (x0_1.length : Int)) = false:=decide_eq_false c3
    clear c3
    simp only [Option.some.injEq,Prod.mk.injEq] at H
    obtain ⟨rfl,rfl⟩:=H
    obtain ⟨Ao9,co9,eo9⟩:=Kd.R_slice HO_0.out
    subst eo9
    go_wp2
    go_ret
    exact ⟨by first | rfl | (simp [errW_none,errW_some] <;> rfl) | (simp [*,errW_none,errW_some] <;> rfl),by (with_reducible repeat (first | apply Kd.R_alloc | apply Kd.R_drewN | apply Kd.R_drew));exact HO_0.out,by repeat (first | (with_reducible first | exact HB.out | apply below_alloc | apply pw_below_drewN | apply below_drew1) | exact HB.out),by repeat (first | (with_reducible first | exact HK.out | apply Kept.alloc | apply Kept.drewN | apply Kept.drew) | exact HK.out)⟩

/-! ### laws_markIntSS: function 21 (by hand: an element's row is handed to what writes it) -/
def laws_markIntSS.l0 : Nat → List (List Int) → Int → Int → Option (Int × List (List Int))
 | 0,_,_,_ => none
 | k + 1,x,a,i => if i < (x.length : Int) then (if 0 ≤ i then ((laws_markIntS.f k (x.getD i.toNat []) a).bind fun b => (laws_markIntSS.l0 k (x.set i.toNat b.2) b.1 (wrap64 (i + 1)))) else none) else some (a,x)
def laws_markIntSS.f (k : Nat) (x : List (List Int)) (a : Int) : Option (Int × List (List Int)):=laws_markIntSS.l0 k x a 0
theorem laws_markIntSS.mono_l : ∀ k,∀ y0 y1 y2,LeO (laws_markIntSS.l0 k y0 y1 y2) (laws_markIntSS.l0 (k + 1) y0 y1 y2)
 | 0 => fun _ _ _ r h => by simp [laws_markIntSS.l0] at h
 | k + 1 => by
  have ih0:=laws_markIntSS.mono_l k
  intro y0 y1 y2
  unfold laws_markIntSS.l0
  repeat' first
   | (with_reducible exact ih0 _ _ _)
   | (with_reducible exact laws_markIntS.mono _ _ _)
   | (with_reducible exact LeO.refl _)
   | (with_reducible exact LeO.none _)
   | (with_reducible refine LeO.ite ?_ ?_)
   | (with_reducible refine LeO.bind ?_ (fun _ => ?_))
theorem laws_markIntSS.mono : ∀ a0 a1 k,LeO (laws_markIntSS.f k a0 a1) (laws_markIntSS.f (k + 1) a0 a1):=fun _ _ k => laws_markIntSS.mono_l k _ _ _
set_option maxHeartbeats 8000000 in
set_option maxRecDepth 100000 in
theorem laws_markIntSS.calls (k : Nat) (P0_ : Nat → Prop) (u9000_ : Value) (l0 : List (List Int)) (a1 : Int) (r1 : Int) (r2 : List (List Int)) (w0 w : World) (hB : Below w0.heap.size w0 w) (ho0 : Kd.S (Kd.slice 3 (Kd.int .i64)) 43 w w0.heap.size P0_ u9000_ l0) (h : laws_markIntSS.f k l0 a1 = some (r1,r2)) :
  Calls Try.prog 21 #[u9000_,.int .i64 a1] w fun e w' => e = .returned (.int .i64 r1) ∧ Kd.S (Kd.slice 3 (Kd.int .i64)) 43 w' w0.heap.size P0_ u9000_ r2 ∧ Below w0.heap.size w0 w' ∧ Kept w w' P0_:=by
 obtain ⟨A0,c0,rfl⟩:=Kd.S_slice ho0
 have HO0:=Aside0.mk ho0
 have HB0:=Aside0.mk hB
 have H':=Aside0.mk h
 have HK0:=Aside0.mk (Kept.refl w P0_)
 have HL:=Aside0.mk (rfl : l0.length = l0.length)
 clear ho0 hB h
 unfold laws_markIntSS.f at H'
 go_enter Try.func21,Try.ntmps21
 go_wp2
 go_loopg [1,5] k (fun kq v1 v5 w' => ∃ (x : List (List Int)) (x1 x5 : Int),v1 = .int .i64 x1 ∧ v5 = .int .i64 x5 ∧ Aside0 (laws_markIntSS.l0 kq x x1 x5 = some (r1,r2)) ∧ Aside0 (kq ≤ k) ∧ Aside0 (Kd.S (Kd.slice 3 (Kd.int .i64)) 43 w' w0.heap.size P0_ (.slice A0 l0.length c0) x) ∧ Aside0 (Below w0.heap.size w0 w') ∧ Aside0 (Kept w w' P0_))
 case atStart => exact ⟨l0,a1,0,rfl,rfl,H',⟨Nat.le_refl _⟩,HO0,HB0,HK0⟩
 case round =>
  clear H' HO0 HB0 HK0
  obtain ⟨x,x1,x5,rfl,rfl,HA,HK1,HO,HB,HK⟩:=hrel
  cases gk with
  | zero => exact absurd HA.out (by simp [laws_markIntSS.l0])
  | succ k1 =>
   have H:=HA.out
   clear HA
   simp only [laws_markIntSS.l0] at H
   have hlen:=(Kd.S_reads' HO.out).1
   rw [← hlen] at H
   have HLN:=Aside0.mk hlen
   clear hlen
   by_cases c3 : x5 < (l0.length : Int)
   ·rw [if_pos c3] at H
    by_cases c4 : 0 ≤ x5
    ·rw [if_pos c4] at H
     obtain ⟨⟨b1,b2⟩,A60,H⟩:=Option.bind_eq_some_iff.mp H
     obtain ⟨g,oki,ve,rfl,hx0,hf0,hR,hoki,_,_,hH⟩:=S_row HO.out x5 c4 c3
     have A6:=Aside0.mk A60
     have HR:=Aside0.mk hR
     have HH:=Aside0.mk hH
     have HKI:=Aside0.mk hoki
     have H':=Aside0.mk H
     have c3b0 : decide (x5 < (l0.length : Int)) = true:=decide_eq_true c3
     have c4b0 : decide (0 ≤ x5) = true:=decide_eq_true c4
     have p3:=eq_true c3
     have p4:=eq_true c4
     clear A60 hR hH hoki H c3 c4
     go_wp2_with (first | (go_at_call 31;(with_reducible refine (laws_markIntS.calls k1 oki ve (x.getD x5.toNat []) x1 b1 b2 w0 _ HB.out HR.out A6.out).mono ?_);rintro e w4 ⟨rfl,hr2,hb,hkp⟩;have HB4:=Aside0.mk hb;have HO4:=Aside0.mk (S_back rfl HH.out hkp hr2 HR.out.1);have HK4:=Aside0.mk (HK.out.then_ hkp (fun k_ h_ => .inl (HKI.out k_ h_).1));clear hb hr2 hkp HB HO HK HR HH HKI A6 hx0 hf0))
     go_roundg k1
     case measure => have:=HK1.out;omega
     case rel => exact ⟨_,_,_,rfl,rfl,H',⟨by have:=HK1.out;omega⟩,HO4,HB4,HK4⟩
    ·rw [if_neg c4] at H
     exact absurd H (by simp)
   ·rw [if_neg c3] at H
    have c3b0 : decide (x5 < (l0.length : Int)) = false:=decide_eq_false c3
    clear c3
    simp only [Option.some.injEq,Prod.mk.injEq] at H
    obtain ⟨rfl,rfl⟩:=H
    go_wp2
    go_ret
    exact ⟨rfl,HO.out,HB.out,HK.out⟩

/-! ### laws_markGraph: function 20 (by hand: rows in rows are written) -/
def laws_markGraph.f (k : Nat) (x : List (List Int)) (a : Int) : Option (Int × List (List Int)):=(laws_markIntSS.f k x a).bind fun b => some (b.1,b.2)
theorem laws_markGraph.mono : ∀ a0 a1 k,LeO (laws_markGraph.f k a0 a1) (laws_markGraph.f (k + 1) a0 a1):=fun _ _ k => LeO.bind (laws_markIntSS.mono _ _ _) (fun _ => LeO.refl _)
set_option maxHeartbeats 8000000 in
set_option maxRecDepth 100000 in
theorem laws_markGraph.calls (k : Nat) (P0_ : Nat → Prop) (u9000_ : Value) (l0 : List (List Int)) (a1 : Int) (r1 : Int) (r2 : List (List Int)) (w0 w : World) (hB : Below w0.heap.size w0 w) (ho0 : Kd.S (Kd.slice 3 (Kd.int .i64)) 43 w w0.heap.size P0_ u9000_ l0) (h : laws_markGraph.f k l0 a1 = some (r1,r2)) :
  Calls Try.prog 20 #[.agg #[u9000_],.int .i64 a1] w fun e w' => e = .returned (.int .i64 r1) ∧ Kd.S (Kd.slice 3 (Kd.int .i64)) 43 w' w0.heap.size P0_ u9000_ r2 ∧ Below w0.heap.size w0 w' ∧ Kept w w' P0_:=by
 have hu27:=Try.underlying28
 obtain ⟨A0,c0,rfl⟩:=Kd.S_slice ho0
 unfold laws_markGraph.f at h
 obtain ⟨⟨b1,b2⟩,A1,H⟩:=Option.bind_eq_some_iff.mp h
 simp only [Option.some.injEq,Prod.mk.injEq] at H
 obtain ⟨rfl,rfl⟩:=H
 have A:=Aside0.mk A1
 have HO:=Aside0.mk (Kd.S_alloc (Kd.S_mono (Kd.S_bound ho0) (fun k_ hk_ => hk_.1)) (.cells #[.slice A0 l0.length c0] 28))
 have HB:=Aside0.mk hB
 clear h A1 ho0 hB
 go_enter Try.func20,Try.ntmps20
 go_wp2_with (first | (go_at_call 21;(with_reducible refine (laws_markIntSS.calls k P0_ _ l0 a1 b1 b2 w0 _ (HB.out.alloc HB.out.size _) HO.out A.out).mono ?_);rintro e w2 ⟨rfl,hy,hb,hkp⟩;have HY:=Aside0.mk hy;have HB2:=Aside0.mk hb;have HK:=Aside0.mk hkp;clear hy hb hkp))
 go_ret
 exact ⟨rfl,HY.out,HB2.out,⟨Nat.le_trans (by simp) HK.out.1,fun i hi hn => (HK.out.2 i (by simp;omega) hn).trans (Below.heap_alloc w _ i hi)⟩⟩

end Go.Proofs.Ytbmnoenbhlfjaaa.Q
