-- WRITTEN BY A PROGRAM OF THIS SESSION
import Derived.Test.YthgkhfhfahifmaaQ0
import Derived.Test.YthgkhfhfahifmaaQ3
namespace Go.Proofs.Ythgkhfhfahifmaa.Q
open Go.RowKit Go.Proofs.YthgkhfhfahifmaaW.PrintWords Go.Proofs.YthgkhfhfahifmaaW.PrintLast Go.Proofs.YthgkhfhfahifmaaW.PrintMore
attribute [local go_sem] max2_int min2_int max_two min_two max_three min_three max_four min_four   -- for this text's walks alone
set_option linter.unusedVariables false
set_option linter.unusedSimpArgs false

/-! ### laws_markBlockS: function 17 (by hand: fields of structs in a row that came in are written, and two rows in them) -/
/-- A block of a row of blocks of the call's own, lent: its two rows are apart, for they are of two types. -/
theorem BlockS.row {w : World} {base n cap : Nat} {P : Nat → Prop} {A : Option Addr} {xs : List S56} (h : Kd.S k56 56 w base P (.slice A n cap) xs) (i : Int) (h0 : 0 ≤ i) (h1 : i < n) :
  ∃ g oki v0 v3,A = some ⟨g,0,none⟩ ∧ w.cell? ⟨g,i.toNat * 4,none⟩ = some v0 ∧
   k79.R 79 w base (fun k => some k = v0.ownBlock) v0 (rd_T56 xs i).f0 ∧ (Kd.int .i64).R 3 w base (fun k => some k = v3.ownBlock) v3 (rd_T56 xs i).f3 ∧
   (∀ k,some k = v0.ownBlock → oki k) ∧ (∀ k,some k = v3.ownBlock → oki k ∧ ¬ some k = v0.ownBlock) ∧
   Kd.H k56 56 w base P (.slice (some ⟨g,0,none⟩) n cap) xs i oki [v0,.int .i64 (rd_T56 xs i).f1,.int .i64 (rd_T56 xs i).f2,v3] ∧
   (∀ k,oki k → P k ∧ k ≠ g) ∧ base ≤ g ∧ P g:=by
 have hn:=(Kd.S_reads' h).1
 obtain ⟨g,cap',hv,hbg,_⟩:=Kd.S_form h (by omega)
 injection hv with ha _ _
 subst ha
 obtain ⟨oki,c,hcl,hM,hcc,hfr,hoki,hH⟩:=Kd.S_elem h z56 i h0 h1
 obtain ⟨v0,v3,rfl,hR0,hR3⟩:=k56_openM hM
 have hPg : P g:=(Kd.S_R h).1 g (by simp [Value.ownBlock])
 have c0:=hcc 0 _ rfl
 simp only [show k56.sz = 4 from rfl,Nat.add_zero] at c0
 refine ⟨g,oki,v0,v3,rfl,c0,Kd.R_tight rfl hR0,Kd.R_tight rfl hR3,fun k hk => hR0.1 k hk.symm,fun k hk => ⟨hR3.1 k hk.symm,fun hk0 => ?_⟩,hH,hoki,hbg,hPg⟩
 obtain ⟨c3,e3⟩:=Kd.R_typed hR3 k hk.symm
 obtain ⟨c0,e0⟩:=Kd.R_typed hR0 k hk0.symm
 rw [e0] at e3
 injection e3 with e3
 injection e3 with _ e3
 exact absurd e3 (by decide)
/-- Its first row is written; then its two numbers are. -/
theorem BlockS.mid {w w' : World} {base n cap g : Nat} {P oki ok' : Nat → Prop} {v0 v3 : Value} {xs : List S56} {i u10 u20 : Int} {y0 : List S79} {y3 : List Int} (hH : Kd.H k56 56 w base P (.slice (some ⟨g,0,none⟩) n cap) xs i oki [v0,.int .i64 u10,.int .i64 u20,v3]) (h0 : 0 ≤ i) (h1 : i < n)
  (hk : Kept w w' (fun k => some k = v0.ownBlock)) (hr0 : k79.R 79 w' base ok' v0 y0) (hr3 : (Kd.int .i64).R 3 w base (fun k => some k = v3.ownBlock) v3 y3)
  (hv0 : ∀ k,some k = v0.ownBlock → oki k) (hv3 : ∀ k,some k = v3.ownBlock → oki k ∧ ¬ some k = v0.ownBlock) (hoki : ∀ k,oki k → P k ∧ k ≠ g) (hPg : P g) (u1 u2 : Int) :
  (∃ q,w'.cell? ⟨g,i.toNat * 4 + 1,none⟩ = some q) ∧ w'.frozen? ⟨g,i.toNat * 4 + 1,none⟩ = false ∧
   (∃ q,(w'.setCell ⟨g,i.toNat * 4 + 1,none⟩ (.int .i64 u1)).cell? ⟨g,i.toNat * 4 + 2,none⟩ = some q) ∧ (w'.setCell ⟨g,i.toNat * 4 + 1,none⟩ (.int .i64 u1)).frozen? ⟨g,i.toNat * 4 + 2,none⟩ = false ∧
   ((w'.setCell ⟨g,i.toNat * 4 + 1,none⟩ (.int .i64 u1)).setCell ⟨g,i.toNat * 4 + 2,none⟩ (.int .i64 u2)).cell? ⟨g,i.toNat * 4 + 3,none⟩ = some v3 ∧
   k79.R 79 ((w'.setCell ⟨g,i.toNat * 4 + 1,none⟩ (.int .i64 u1)).setCell ⟨g,i.toNat * 4 + 2,none⟩ (.int .i64 u2)) base (fun k => some k = v0.ownBlock) v0 y0 ∧
   (Kd.int .i64).R 3 ((w'.setCell ⟨g,i.toNat * 4 + 1,none⟩ (.int .i64 u1)).setCell ⟨g,i.toNat * 4 + 2,none⟩ (.int .i64 u2)) base (fun k => some k = v3.ownBlock) v3 y3 ∧
   Kd.H k56 56 ((w'.setCell ⟨g,i.toNat * 4 + 1,none⟩ (.int .i64 u1)).setCell ⟨g,i.toNat * 4 + 2,none⟩ (.int .i64 u2)) base P (.slice (some ⟨g,0,none⟩) n cap) xs i oki [v0,.int .i64 u1,.int .i64 u2,v3] ∧
   Kept w ((w'.setCell ⟨g,i.toNat * 4 + 1,none⟩ (.int .i64 u1)).setCell ⟨g,i.toNat * 4 + 2,none⟩ (.int .i64 u2)) P:=by
 have hH':=Kd.H_kept hH hk (fun k _ hn hc => hn (hv0 k hc))
 have hr0':=Kd.R_tight rfl hr0
 have hr3' : (Kd.int .i64).R 3 w' base (fun k => some k = v3.ownBlock) v3 y3:=Kd.R_step hr3 (fun k hk3 hlt => hk.2 k hlt (hv3 k hk3).2)
 have c1:=(Kd.H_at hH' h0 h1).1 1 _ rfl
 have f1:=(Kd.H_at hH' h0 h1).2 1
 obtain ⟨ha,ga⟩:=Kd.H_seg hH' h0 h1 (seg:=[.int .i64 u1]) (j:=1) (by show 1 + 1 ≤ 4;omega) (by intro q hq;rw [List.mem_singleton.1 hq];rfl)
 have e1 : w'.setCells g (i.toNat * k56.sz + 1) [.int .i64 u1] = w'.setCell ⟨g,i.toNat * 4 + 1,none⟩ (.int .i64 u1):=by
  simp [World.setCells,show k56.sz = 4 from rfl]
 rw [e1] at ha ga
 have ha' : Kd.H k56 56 (w'.setCell ⟨g,i.toNat * 4 + 1,none⟩ (.int .i64 u1)) base P (.slice (some ⟨g,0,none⟩) n cap) xs i oki [v0,.int .i64 u1,.int .i64 u20,v3]:=ha
 have c2:=(Kd.H_at ha' h0 h1).1 2 _ rfl
 have f2:=(Kd.H_at ha' h0 h1).2 2
 obtain ⟨hb,gb⟩:=Kd.H_seg ha' h0 h1 (seg:=[.int .i64 u2]) (j:=2) (by show 2 + 1 ≤ 4;omega) (by intro q hq;rw [List.mem_singleton.1 hq];rfl)
 have e2 : (w'.setCell ⟨g,i.toNat * 4 + 1,none⟩ (.int .i64 u1)).setCells g (i.toNat * k56.sz + 2) [.int .i64 u2] = (w'.setCell ⟨g,i.toNat * 4 + 1,none⟩ (.int .i64 u1)).setCell ⟨g,i.toNat * 4 + 2,none⟩ (.int .i64 u2):=by
  simp [World.setCells,show k56.sz = 4 from rfl]
 rw [e2] at hb gb
 have hb' : Kd.H k56 56 ((w'.setCell ⟨g,i.toNat * 4 + 1,none⟩ (.int .i64 u1)).setCell ⟨g,i.toNat * 4 + 2,none⟩ (.int .i64 u2)) base P (.slice (some ⟨g,0,none⟩) n cap) xs i oki [v0,.int .i64 u1,.int .i64 u2,v3]:=hb
 have c3:=(Kd.H_at hb' h0 h1).1 3 _ rfl
 simp only [show k56.sz = 4 from rfl] at c1 f1 c2 f2 c3
 have hne0 : ∀ k,some k = v0.ownBlock → some k ≠ some g:=fun k hk he => (hoki k (hv0 k hk)).2 (by injection he)
 have hne3 : ∀ k,some k = v3.ownBlock → some k ≠ some g:=fun k hk he => (hoki k (hv3 k hk).1).2 (by injection he)
 have kg : ∀ k,some g = some k → P k:=fun k e => by injection e with e;exact e ▸ hPg
 exact ⟨⟨_,c1⟩,f1,⟨_,c2⟩,f2,c3,Kd.R_grown (Kd.R_grown hr0' ga hne0) gb hne0,Kd.R_grown (Kd.R_grown hr3' ga hne3) gb hne3,hb',Kept.of_grown gb (Kept.of_grown ga (hk.mono (fun k hk => (hoki k (hv0 k hk)).1)) (fun k e => .inl (kg k e))) (fun k e => .inl (kg k e))⟩
/-- Its last row is written: the block is given back. -/
theorem BlockS.back {w w' : World} {base : Nat} {P oki ok' : Nat → Prop} {v v0 v3 : Value} {xs : List S56} {i u1 u2 : Int} {y0 : List S79} {y3 : List Int} (hH : Kd.H k56 56 w base P v xs i oki [v0,.int .i64 u1,.int .i64 u2,v3])
  (hk : Kept w w' (fun k => some k = v3.ownBlock)) (hr0 : k79.R 79 w base (fun k => some k = v0.ownBlock) v0 y0) (hr3 : (Kd.int .i64).R 3 w' base ok' v3 y3)
  (hv0 : ∀ k,some k = v0.ownBlock → oki k) (hv3 : ∀ k,some k = v3.ownBlock → oki k ∧ ¬ some k = v0.ownBlock) (hoki : ∀ k,oki k → P k) :
  Kd.S k56 56 w' base P v (xs.set i.toNat ⟨y0,u1,u2,y3⟩) ∧ Kept w w' P:=by
 have hH':=Kd.H_kept hH hk (fun k _ hn hc => hn (hv3 k hc).1)
 have hr0' : k79.R 79 w' base (fun k => some k = v0.ownBlock) v0 y0:=Kd.R_step hr0 (fun k hk0 hlt => hk.2 k hlt (fun hk3 => (hv3 k hk3).2 hk0))
 exact ⟨Kd.H_back hH' (k56_mkM _ base oki ⟨y0,u1,u2,y3⟩ (Kd.R_mono hr0' hv0) (Kd.R_reok rfl hr3 (fun k hk => (hv3 k hk.symm).1))) (fun _ h => h),hk.mono (fun k hk => hoki k (hv3 k hk).1)⟩
def laws_markBlockS.l0 : Nat → List S56 → Int → Int → Option (Int × List S56)
 | 0,_,_,_ => none
 | k + 1,x,a,i => if i < (x.length : Int) then (if 0 ≤ i then ((laws_markFlatS.f k (rd_T56 x i).f0 a).bind fun b => ((laws_markIntS.f k (rd_T56 x i).f3 (wrap64 (wrap64 (b.1 + 1) + 1))).bind fun c => (laws_markBlockS.l0 k (x.set i.toNat ⟨b.2,b.1,wrap64 (b.1 + 1),c.2⟩) c.1 (wrap64 (i + 1))))) else none) else some (a,x)
def laws_markBlockS.f (k : Nat) (x : List S56) (a : Int) : Option (Int × List S56):=laws_markBlockS.l0 k x a 0
theorem laws_markBlockS.mono_l : ∀ k,∀ y0 y1 y2,LeO (laws_markBlockS.l0 k y0 y1 y2) (laws_markBlockS.l0 (k + 1) y0 y1 y2)
 | 0 => fun _ _ _ r h => by simp [laws_markBlockS.l0] at h
 | k + 1 => by
  have ih0:=laws_markBlockS.mono_l k
  intro y0 y1 y2
  unfold laws_markBlockS.l0
  repeat' first
   | (with_reducible exact ih0 _ _ _)
   | (with_reducible exact laws_markFlatS.mono _ _ _)
   | (with_reducible exact laws_markIntS.mono _ _ _)
   | (with_reducible exact LeO.refl _)
   | (with_reducible exact LeO.none _)
   | (with_reducible refine LeO.ite ?_ ?_)
   | (with_reducible refine LeO.bind ?_ (fun _ => ?_))
theorem laws_markBlockS.mono : ∀ a0 a1 k,LeO (laws_markBlockS.f k a0 a1) (laws_markBlockS.f (k + 1) a0 a1):=fun _ _ k => laws_markBlockS.mono_l k _ _ _
set_option maxHeartbeats 8000000 in
set_option maxRecDepth 100000 in
theorem laws_markBlockS.calls (k : Nat) (P0_ : Nat → Prop) (u9000_ : Value) (l0 : List S56) (a1 : Int) (r1 : Int) (r2 : List S56) (w0 w : World) (hB : Below w0.heap.size w0 w) (ho0 : Kd.S k56 56 w w0.heap.size P0_ u9000_ l0) (h : laws_markBlockS.f k l0 a1 = some (r1,r2)) :
  Calls Try.prog 17 #[u9000_,.int .i64 a1] w fun e w' => e = .returned (.int .i64 r1) ∧ Kd.S k56 56 w' w0.heap.size P0_ u9000_ r2 ∧ Below w0.heap.size w0 w' ∧ Kept w w' P0_:=by
 have hu58:=Try.underlying56
 obtain ⟨A0,c0,rfl⟩:=Kd.S_slice ho0
 have HO0:=Aside0.mk ho0
 have HB0:=Aside0.mk hB
 have H':=Aside0.mk h
 have HK0:=Aside0.mk (Kept.refl w P0_)
 clear ho0 hB h
 unfold laws_markBlockS.f at H'
 go_enter Try.func17,Try.ntmps17
 go_wp2
 go_loopg [1,5] k (fun kq v1 v5 w' => ∃ (x : List S56) (x1 x5 : Int),v1 = .int .i64 x1 ∧ v5 = .int .i64 x5 ∧ Aside0 (laws_markBlockS.l0 kq x x1 x5 = some (r1,r2)) ∧ Aside0 (kq ≤ k) ∧ Aside0 (Kd.S k56 56 w' w0.heap.size P0_ (.slice A0 l0.length c0) x) ∧ Aside0 (Below w0.heap.size w0 w') ∧ Aside0 (Kept w w' P0_))
 case atStart => exact ⟨l0,a1,0,rfl,rfl,H',⟨Nat.le_refl _⟩,HO0,HB0,HK0⟩
 case round =>
  clear H' HO0 HB0 HK0
  obtain ⟨x,x1,x5,rfl,rfl,HA,HK1,HO,HB,HK⟩:=hrel
  cases gk with
  | zero => exact absurd HA.out (by simp [laws_markBlockS.l0])
  | succ k1 =>
   have H:=HA.out
   clear HA
   simp only [laws_markBlockS.l0] at H
   have hlen:=(Kd.S_reads' HO.out).1
   rw [← hlen] at H
   have HLN:=Aside0.mk hlen
   clear hlen
   by_cases c3 : x5 < (l0.length : Int)
   rotate_left
   ·rw [if_neg c3] at H
    have c3b0 : decide (x5 < (l0.length : Int)) = false:=decide_eq_false c3
    clear c3
    simp only [Option.some.injEq,Prod.mk.injEq] at H
    obtain ⟨rfl,rfl⟩:=H
    go_wp2
    go_ret
    exact ⟨rfl,HO.out,HB.out,HK.out⟩
   rw [if_pos c3] at H
   by_cases c4 : 0 ≤ x5
   rotate_left
   ·rw [if_neg c4] at H
    exact absurd H (by simp)
   rw [if_pos c4] at H
   obtain ⟨⟨b1,b2⟩,A60,H⟩:=Option.bind_eq_some_iff.mp H
   obtain ⟨⟨d1,d2⟩,A70,H⟩:=Option.bind_eq_some_iff.mp H
   obtain ⟨g,oki,v0,v3,rfl,hx0,hR0,hR3,hv0,hv3,hH,hoki,hbg,hPg⟩:=BlockS.row HO.out x5 c4 c3
   have A6:=Aside0.mk A60
   have A7:=Aside0.mk A70
   have HR0:=Aside0.mk hR0
   have HR3:=Aside0.mk hR3
   have HV0:=Aside0.mk hv0
   have HV3:=Aside0.mk hv3
   have HH:=Aside0.mk hH
   have HKI:=Aside0.mk hoki
   have HBG:=Aside0.mk hbg
   have HPG:=Aside0.mk hPg
   have H':=Aside0.mk H
   have c3b0 : decide (x5 < (l0.length : Int)) = true:=decide_eq_true c3
   have c4b0 : decide (0 ≤ x5) = true:=decide_eq_true c4
   have p3:=eq_true c3
   have p4:=eq_true c4
   clear A60 A70 hR0 hR3 hv0 hv3 hH hoki H c3 c4 hbg hPg HO
   go_wp2_with (first | (go_at_call 48;(refine (laws_markFlatS.calls k1 _ v0 (rd_T56 x x5).f0 _ b1 b2 w0 _ HB.out HR0.out A6.out).mono ?_);rintro e w4 ⟨rfl,hr2,hb,hkp⟩;obtain ⟨⟨q1,hx1⟩,hf1,⟨q2,hx2⟩,hf2,hx3,hs0,hs3,hs,hk2⟩:=BlockS.mid (u1:=b1) (u2:=wrap64 (b1 + 1)) HH.out (of_eq_true p4) (of_eq_true p3) hkp hr2 HR3.out HV0.out HV3.out HKI.out HPG.out;have HB4:=Aside0.mk (below_set (j:=x5.toNat * 4 + 2) (v:=.int .i64 (wrap64 (b1 + 1))) (below_set (j:=x5.toNat * 4 + 1) (v:=.int .i64 b1) hb HBG.out) HBG.out);have HS0:=Aside0.mk hs0;have HS3:=Aside0.mk hs3;have HS:=Aside0.mk hs;have HK4:=Aside0.mk (HK.out.then_ hk2 (fun k_ h_ => .inl h_));clear hr2 hb hkp hs0 hs3 hs hk2) | (go_at_call 23;(refine (laws_markIntS.calls k1 _ v3 (rd_T56 x x5).f3 _ d1 d2 w0 _ HB4.out HS3.out A7.out).mono ?_);rintro e w5 ⟨rfl,hr2,hb,hkp⟩;obtain ⟨hs,hk2⟩:=BlockS.back HS.out hkp HS0.out hr2 HV0.out HV3.out (fun k_ h_ => (HKI.out k_ h_).1);have HB5:=Aside0.mk hb;have HO5:=Aside0.mk hs;have HK5:=Aside0.mk (HK4.out.then_ hk2 (fun k_ h_ => .inl h_));clear hr2 hb hkp hs hk2))
   go_roundg k1
   case measure => have:=HK1.out;omega
   case rel => exact ⟨_,_,_,rfl,rfl,H',⟨by have:=HK1.out;omega⟩,HO5,HB5,HK5⟩

/-! ### laws_heldIntS: function 24 -/
def laws_heldIntS.l0 : Nat → List Int → Int → Int → Option (Int)
 | 0,_,_,_ => none
 | k + 1,x0,x1,x5 => if x5 < (x0.length : Int) then (if 0 ≤ x5 then (if (rd x0 x5) = x1 then (laws_heldIntS.l0 k x0 (wrap64 (x1 + 1)) (wrap64 (x5 + 1))) else (some (-1))) else (none)) else (some x1)
def laws_heldIntS.f (k : Nat) (l0 : List Int) (a1 : Int) : Option (Int):=laws_heldIntS.l0 k l0 a1 0
theorem laws_heldIntS.mono_l : ∀ k,(∀ y0 y1 y2,LeO (laws_heldIntS.l0 k y0 y1 y2) (laws_heldIntS.l0 (k + 1) y0 y1 y2))
 | 0 => fun _ _ _ r h => by simp [laws_heldIntS.l0] at h
 | k + 1 => by
  have ih0:=laws_heldIntS.mono_l k
  ·intro y0 y1 y2
   unfold laws_heldIntS.l0
   repeat' first
   | (with_reducible exact ih0 _ _ _)
   | (with_reducible exact LeO.refl _)
   | (with_reducible exact LeO.none _)
   | (with_reducible refine LeO.ite ?_ ?_)
   | (with_reducible refine LeO.bind ?_ (fun _ => ?_))
theorem laws_heldIntS.mono : ∀ a0 a1 k,LeO (laws_heldIntS.f k a0 a1) (laws_heldIntS.f (k + 1) a0 a1):=by
 intro a0 a1 k
 have ih0:=laws_heldIntS.mono_l k
 unfold laws_heldIntS.f
 repeat' first
   | (with_reducible exact ih0 _ _ _)
   | (with_reducible exact LeO.refl _)
   | (with_reducible exact LeO.none _)
   | (with_reducible refine LeO.ite ?_ ?_)
   | (with_reducible refine LeO.bind ?_ (fun _ => ?_))
set_option maxHeartbeats 8000000 in
set_option maxRecDepth 100000 in
theorem laws_heldIntS.calls (k : Nat) (A0 : Option Addr) (c0 : Nat) (l0 : List Int) (a1 : Int) (r : Int) (w : World) (hr0 : Kd.C (Kd.int .i64) w A0 l0.length l0) (hc0 : l0.length ≤ c0) (h : laws_heldIntS.f k l0 a1 = some r) :
  Calls Try.prog 24 #[.slice A0 l0.length c0,.int .i64 a1] w fun e w' => e = .returned (.int .i64 r) ∧ Drawn0 w w':=by
 have HR0:=Aside0.mk hr0
 have HC0:=Aside0.mk hc0
 clear hr0 hc0
 have H : (laws_heldIntS.l0 k l0 a1 0) = some r:=h
 clear h
 have H':=Aside0.mk H
 clear H
 go_enter Try.func24,Try.ntmps24
 go_wp2
 go_loopg [1,5] k (fun kq v1 v5 w' => ∃ (x1_1 : Int) (x5_1 : Int),v1 = .int .i64 x1_1 ∧ v5 = .int .i64 x5_1 ∧ Aside0 (laws_heldIntS.l0 kq l0 x1_1 x5_1 = some r) ∧ Aside0 (kq ≤ k) ∧ Drawn0 w w')
 case atStart => exact ⟨(a1),(0),(by first | rfl | (simp;done) | (simp [*];done)),(by first | rfl | (simp;done) | (simp [*];done)),H',⟨Nat.le_refl _⟩,by repeat (first | exact Drawn0.refl _ | apply Drawn0.step)⟩
 case round =>
  clear H'
  try clear c2
  try clear p2
  obtain ⟨x1_1,x5_1,rfl,rfl,HA,HK1,⟨m1,rfl⟩⟩:=hrel
  cases gk with
  | zero => exact absurd HA.out (by simp [laws_heldIntS.l0])
  | succ k1 =>
   have H:=HA.out
   clear HA
   simp only [laws_heldIntS.l0] at H
   by_cases c3 : x5_1 < (l0.length : Int)
   rotate_left
   ·rw [if_neg c3] at H
    have c3b0 : decide (x5_1 < (l0.length : Int)) = false:=decide_eq_false c3
    clear c3
    obtain rfl:=Option.some.inj H
    go_wp2
    go_ret
    exact ⟨by first | rfl | (simp;done) | (simp [*];done),by repeat (first | exact Drawn0.refl _ | apply Drawn0.step)⟩
   rw [if_pos c3] at H
   have c3b0 : decide (x5_1 < (l0.length : Int)) = true:=decide_eq_true c3
   clear c3
   by_cases c4 : 0 ≤ x5_1
   rotate_left
   ·rw [if_neg c4] at H
    exact absurd H (by simp)
   rw [if_pos c4] at H
   have c4b0 : decide (0 ≤ x5_1) = true:=decide_eq_true c4
   clear c4
   by_cases c5 : (rd l0 x5_1) = x1_1
   rotate_left
   ·rw [if_neg c5] at H
    have c5b0 : ((rd l0 x5_1) == x1_1) = false:=beq_eq_false_iff_ne.mpr c5
    have c5b1 : ((rd l0 x5_1) != x1_1) = true:=bne_iff_ne.mpr c5
    obtain rfl:=Option.some.inj H
    have p168 : 0 ≤ (x5_1 : Int):=of_decide_eq_true (by assumption)
    have q168 : x5_1 < (l0.length : Int):=of_decide_eq_true (by assumption)
    obtain ⟨ad168,e168,hx168_0⟩:=Kd.at_int HR0.out x5_1 p168 q168
    cases e168
    replace p168:=eq_true p168
    replace q168:=eq_true q168
    go_wp2
    go_ret
    exact ⟨by first | rfl | (simp;done) | (simp [*];done),by repeat (first | exact Drawn0.refl _ | apply Drawn0.step)⟩
   rw [if_pos c5] at H
   have c5b0 : ((rd l0 x5_1) == x1_1) = true:=beq_iff_eq.mpr c5
   have c5b1 : ((rd l0 x5_1) != x1_1) = false:=bne_eq_false_iff_eq.mpr c5
   clear c5
   have H':=Aside0.mk H
   clear H
   have p168 : 0 ≤ (x5_1 : Int):=of_decide_eq_true (by assumption)
   have q168 : x5_1 < (l0.length : Int):=of_decide_eq_true (by assumption)
   obtain ⟨ad168,e168,hx168_0⟩:=Kd.at_int HR0.out x5_1 p168 q168
   cases e168
   replace p168:=eq_true p168
   replace q168:=eq_true q168
   go_wp2
   go_roundg k1
   case measure => have:=HK1.out;omega
   case rel => exact ⟨(wrap64 (x1_1 + 1)),(wrap64 (x5_1 + 1)),(by first | rfl | (simp;done) | (simp [*];done)),(by first | rfl | (simp;done) | (simp [*];done)),H',⟨by have:=HK1.out;omega⟩,by repeat (first | exact Drawn0.refl _ | apply Drawn0.step)⟩

/-! ### laws_heldFlatS: function 56 -/
def laws_heldFlatS.l0 : Nat → List (S79) → Int → Int → Option (Int)
 | 0,_,_,_ => none
 | k + 1,x0,x1,x5 => if x5 < (x0.length : Int) then (if 0 ≤ x5 then (if ((rd_T79 x0 x5).f0) = x1 then (if ((rd_T79 x0 x5).f1) = (wrap64 (x1 + 1)) then (if ((rd_T79 x0 x5).f2) = (wrap64 ((wrap64 (x1 + 1)) + 1)) then (if ((rd_T79 x0 x5).f3) = (wrap64 ((wrap64 ((wrap64 (x1 + 1)) + 1)) + 1)) then (if ((rd_T79 x0 x5).f4) = (wrap64 ((wrap64 ((wrap64 ((wrap64 (x1 + 1)) + 1)) + 1)) + 1)) then (if ((rd_T79 x0 x5).f5) = (wrap64 ((wrap64 ((wrap64 ((wrap64 ((wrap64 (x1 + 1)) + 1)) + 1)) + 1)) + 1)) then (laws_heldFlatS.l0 k x0 (wrap64 ((wrap64 ((wrap64 ((wrap64 ((wrap64 ((wrap64 (x1 + 1)) + 1)) + 1)) + 1)) + 1)) + 1)) (wrap64 (x5 + 1))) else (some (-1))) else (some (-1))) else (some (-1))) else (some (-1))) else (some (-1))) else (some (-1))) else (none)) else (some x1)
def laws_heldFlatS.f (k : Nat) (l0 : List (S79)) (a1 : Int) : Option (Int):=laws_heldFlatS.l0 k l0 a1 0
theorem laws_heldFlatS.mono_l : ∀ k,(∀ y0 y1 y2,LeO (laws_heldFlatS.l0 k y0 y1 y2) (laws_heldFlatS.l0 (k + 1) y0 y1 y2))
 | 0 => fun _ _ _ r h => by simp [laws_heldFlatS.l0] at h
 | k + 1 => by
  have ih0:=laws_heldFlatS.mono_l k
  ·intro y0 y1 y2
   unfold laws_heldFlatS.l0
   repeat' first
   | (with_reducible exact ih0 _ _ _)
   | (with_reducible exact LeO.refl _)
   | (with_reducible exact LeO.none _)
   | (with_reducible refine LeO.ite ?_ ?_)
   | (with_reducible refine LeO.bind ?_ (fun _ => ?_))
theorem laws_heldFlatS.mono : ∀ a0 a1 k,LeO (laws_heldFlatS.f k a0 a1) (laws_heldFlatS.f (k + 1) a0 a1):=by
 intro a0 a1 k
 have ih0:=laws_heldFlatS.mono_l k
 unfold laws_heldFlatS.f
 repeat' first
   | (with_reducible exact ih0 _ _ _)
   | (with_reducible exact LeO.refl _)
   | (with_reducible exact LeO.none _)
   | (with_reducible refine LeO.ite ?_ ?_)
   | (with_reducible refine LeO.bind ?_ (fun _ => ?_))
set_option maxHeartbeats 8000000 in
set_option maxRecDepth 100000 in
theorem laws_heldFlatS.calls (k : Nat) (A0 : Option Addr) (c0 : Nat) (l0 : List (S79)) (a1 : Int) (r : Int) (w : World) (hr0 : Kd.C k79 w A0 l0.length l0) (hc0 : l0.length ≤ c0) (h : laws_heldFlatS.f k l0 a1 = some r) :
  Calls Try.prog 56 #[.slice A0 l0.length c0,.int .i64 a1] w fun e w' => e = .returned (.int .i64 r) ∧ Drawn0 w w':=by
 have HR0:=Aside0.mk hr0
 have HC0:=Aside0.mk hc0
 clear hr0 hc0
 have H : (laws_heldFlatS.l0 k l0 a1 0) = some r:=h
 clear h
 have H':=Aside0.mk H
 clear H
 go_enter Try.func56,Try.ntmps56
 go_wp2
 go_loopg [1,5] k (fun kq v1 v5 w' => ∃ (x1_1 : Int) (x5_1 : Int),v1 = .int .i64 x1_1 ∧ v5 = .int .i64 x5_1 ∧ Aside0 (laws_heldFlatS.l0 kq l0 x1_1 x5_1 = some r) ∧ Aside0 (kq ≤ k) ∧ Drawn0 w w')
 case atStart => exact ⟨(a1),(0),(by first | rfl | (simp;done) | (simp [*];done)),(by first | rfl | (simp;done) | (simp [*];done)),H',⟨Nat.le_refl _⟩,by repeat (first | exact Drawn0.refl _ | apply Drawn0.step)⟩
 case round =>
  clear H'
  try clear p2
  obtain ⟨x1_1,x5_1,rfl,rfl,HA,HK1,⟨m1,rfl⟩⟩:=hrel
  cases gk with
  | zero => exact absurd HA.out (by simp [laws_heldFlatS.l0])
  | succ k1 =>
   have H:=HA.out
   clear HA
   simp only [laws_heldFlatS.l0] at H
   by_cases c3 : x5_1 < (l0.length : Int)
   rotate_left
   ·rw [if_neg c3] at H
    have c3b0 : decide (x5_1 < (l0.length : Int)) = false:=decide_eq_false c3
    clear c3
    obtain rfl:=Option.some.inj H
    go_wp2
    go_ret
    exact ⟨by first | rfl | (simp;done) | (simp [*];done),by repeat (first | exact Drawn0.refl _ | apply Drawn0.step)⟩
   rw [if_pos c3] at H
   have c3b0 : decide (x5_1 < (l0.length : Int)) = true:=decide_eq_true c3
   clear c3
   by_cases c4 : 0 ≤ x5_1
   rotate_left
   ·rw [if_neg c4] at H
    exact absurd H (by simp)
   rw [if_pos c4] at H
   have c4b0 : decide (0 ≤ x5_1) = true:=decide_eq_true c4
   clear c4
   by_cases c5 : ((rd_T79 l0 x5_1).f0) = x1_1
   rotate_left
   ·rw [if_neg c5] at H
    have c5b0 : (((rd_T79 l0 x5_1).f0) == x1_1) = false:=beq_eq_false_iff_ne.mpr c5
    have c5b1 : (((rd_T79 l0 x5_1).f0) != x1_1) = true:=bne_iff_ne.mpr c5
    obtain rfl:=Option.some.inj H
    have p169 : 0 ≤ (x5_1 : Int):=of_decide_eq_true (by assumption)
    have q169 : x5_1 < (l0.length : Int):=of_decide_eq_true (by assumption)
    obtain ⟨ad169,e169,hx169_0,hx169_1,hx169_2,hx169_3,hx169_4,hx169_5⟩:=at_T79 HR0.out x5_1 p169 q169
    cases e169
    replace p169:=eq_true p169
    replace q169:=eq_true q169
    go_wp2
    go_ret
    exact ⟨by first | rfl | (simp;done) | (simp [*];done),by repeat (first | exact Drawn0.refl _ | apply Drawn0.step)⟩
   rw [if_pos c5] at H
   have c5b0 : (((rd_T79 l0 x5_1).f0) == x1_1) = true:=beq_iff_eq.mpr c5
   have c5b1 : (((rd_T79 l0 x5_1).f0) != x1_1) = false:=bne_eq_false_iff_eq.mpr c5
   clear c5
   by_cases c6 : ((rd_T79 l0 x5_1).f1) = (wrap64 (x1_1 + 1))
   rotate_left
   ·rw [if_neg c6] at H
    have c6b0 : (((rd_T79 l0 x5_1).f1) == (wrap64 (x1_1 + 1))) = false:=beq_eq_false_iff_ne.mpr c6
    have c6b1 : (((rd_T79 l0 x5_1).f1) != (wrap64 (x1_1 + 1))) = true:=bne_iff_ne.mpr c6
    obtain rfl:=Option.some.inj H
    have p169 : 0 ≤ (x5_1 : Int):=of_decide_eq_true (by assumption)
    have q169 : x5_1 < (l0.length : Int):=of_decide_eq_true (by assumption)
    obtain ⟨ad169,e169,hx169_0,hx169_1,hx169_2,hx169_3,hx169_4,hx169_5⟩:=at_T79 HR0.out x5_1 p169 q169
    cases e169
    replace p169:=eq_true p169
    replace q169:=eq_true q169
    have p170 : 0 ≤ (x5_1 : Int):=of_decide_eq_true (by assumption)
    have q170 : x5_1 < (l0.length : Int):=of_decide_eq_true (by assumption)
    obtain ⟨ad170,e170,hx170_0,hx170_1,hx170_2,hx170_3,hx170_4,hx170_5⟩:=at_T79 HR0.out x5_1 p170 q170
    obtain rfl : ad169 = ad170:=(by injection e170)
    replace p170:=eq_true p170
    replace q170:=eq_true q170
    go_wp2
    go_ret
    exact ⟨by first | rfl | (simp;done) | (simp [*];done),by repeat (first | exact Drawn0.refl _ | apply Drawn0.step)⟩
   rw [if_pos c6] at H
   have c6b0 : (((rd_T79 l0 x5_1).f1) == (wrap64 (x1_1 + 1))) = true:=beq_iff_eq.mpr c6
   have c6b1 : (((rd_T79 l0 x5_1).f1) != (wrap64 (x1_1 + 1))) = false:=bne_eq_false_iff_eq.mpr c6
   clear c6
   by_cases c7 : ((rd_T79 l0 x5_1).f2) = (wrap64 ((wrap64 (x1_1 + 1)) + 1))
   rotate_left
   ·rw [if_neg c7] at H
    have c7b0 : (((rd_T79 l0 x5_1).f2) == (wrap64 ((wrap64 (x1_1 + 1)) + 1))) = false:=beq_eq_false_iff_ne.mpr c7
    have c7b1 : (((rd_T79 l0 x5_1).f2) != (wrap64 ((wrap64 (x1_1 + 1)) + 1))) = true:=bne_iff_ne.mpr c7
    obtain rfl:=Option.some.inj H
    have p169 : 0 ≤ (x5_1 : Int):=of_decide_eq_true (by assumption)
    have q169 : x5_1 < (l0.length : Int):=of_decide_eq_true (by assumption)
    obtain ⟨ad169,e169,hx169_0,hx169_1,hx169_2,hx169_3,hx169_4,hx169_5⟩:=at_T79 HR0.out x5_1 p169 q169
    cases e169
    replace p169:=eq_true p169
    replace q169:=eq_true q169
    have p170 : 0 ≤ (x5_1 : Int):=of_decide_eq_true (by assumption)
    have q170 : x5_1 < (l0.length : Int):=of_decide_eq_true (by assumption)
    obtain ⟨ad170,e170,hx170_0,hx170_1,hx170_2,hx170_3,hx170_4,hx170_5⟩:=at_T79 HR0.out x5_1 p170 q170
    obtain rfl : ad169 = ad170:=(by injection e170)
    replace p170:=eq_true p170
    replace q170:=eq_true q170
    have p171 : 0 ≤ (x5_1 : Int):=of_decide_eq_true (by assumption)
    have q171 : x5_1 < (l0.length : Int):=of_decide_eq_true (by assumption)
    obtain ⟨ad171,e171,hx171_0,hx171_1,hx171_2,hx171_3,hx171_4,hx171_5⟩:=at_T79 HR0.out x5_1 p171 q171
    obtain rfl : ad169 = ad171:=(by injection e171)
    replace p171:=eq_true p171
    replace q171:=eq_true q171
    go_wp2
    go_ret
    exact ⟨by first | rfl | (simp;done) | (simp [*];done),by repeat (first | exact Drawn0.refl _ | apply Drawn0.step)⟩
   rw [if_pos c7] at H
   have c7b0 : (((rd_T79 l0 x5_1).f2) == (wrap64 ((wrap64 (x1_1 + 1)) + 1))) = true:=beq_iff_eq.mpr c7
   have c7b1 : (((rd_T79 l0 x5_1).f2) != (wrap64 ((wrap64 (x1_1 + 1)) + 1))) = false:=bne_eq_false_iff_eq.mpr c7
   clear c7
   by_cases c8 : ((rd_T79 l0 x5_1).f3) = (wrap64 ((wrap64 ((wrap64 (x1_1 + 1)) + 1)) + 1))
   rotate_left
   ·rw [if_neg c8] at H
    have c8b0 : (((rd_T79 l0 x5_1).f3) == (wrap64 ((wrap64 ((wrap64 (x1_1 + 1)) + 1)) + 1))) = false:=beq_eq_false_iff_ne.mpr c8
    have c8b1 : (((rd_T79 l0 x5_1).f3) != (wrap64 ((wrap64 ((wrap64 (x1_1 + 1)) + 1)) + 1))) = true:=bne_iff_ne.mpr c8
    obtain rfl:=Option.some.inj H
    have p169 : 0 ≤ (x5_1 : Int):=of_decide_eq_true (by assumption)
    have q169 : x5_1 < (l0.length : Int):=of_decide_eq_true (by assumption)
    obtain ⟨ad169,e169,hx169_0,hx169_1,hx169_2,hx169_3,hx169_4,hx169_5⟩:=at_T79 HR0.out x5_1 p169 q169
    cases e169
    replace p169:=eq_true p169
    replace q169:=eq_true q169
    have p170 : 0 ≤ (x5_1 : Int):=of_decide_eq_true (by assumption)
    have q170 : x5_1 < (l0.length : Int):=of_decide_eq_true (by assumption)
    obtain ⟨ad170,e170,hx170_0,hx170_1,hx170_2,hx170_3,hx170_4,hx170_5⟩:=at_T79 HR0.out x5_1 p170 q170
    obtain rfl : ad169 = ad170:=(by injection e170)
    replace p170:=eq_true p170
    replace q170:=eq_true q170
    have p171 : 0 ≤ (x5_1 : Int):=of_decide_eq_true (by assumption)
    have q171 : x5_1 < (l0.length : Int):=of_decide_eq_true (by assumption)
    obtain ⟨ad171,e171,hx171_0,hx171_1,hx171_2,hx171_3,hx171_4,hx171_5⟩:=at_T79 HR0.out x5_1 p171 q171
    obtain rfl : ad169 = ad171:=(by injection e171)
    replace p171:=eq_true p171
    replace q171:=eq_true q171
    have p172 : 0 ≤ (x5_1 : Int):=of_decide_eq_true (by assumption)
    have q172 : x5_1 < (l0.length : Int):=of_decide_eq_true (by assumption)
    obtain ⟨ad172,e172,hx172_0,hx172_1,hx172_2,hx172_3,hx172_4,hx172_5⟩:=at_T79 HR0.out x5_1 p172 q172
    obtain rfl : ad169 = ad172:=(by injection e172)
    replace p172:=eq_true p172
    replace q172:=eq_true q172
    go_wp2
    go_ret
    exact ⟨by first | rfl | (simp;done) | (simp [*];done),by repeat (first | exact Drawn0.refl _ | apply Drawn0.step)⟩
   rw [if_pos c8] at H
   have c8b0 : (((rd_T79 l0 x5_1).f3) == (wrap64 ((wrap64 ((wrap64 (x1_1 + 1)) + 1)) + 1))) = true:=beq_iff_eq.mpr c8
   have c8b1 : (((rd_T79 l0 x5_1).f3) != (wrap64 ((wrap64 ((wrap64 (x1_1 + 1)) + 1)) + 1))) = false:=bne_eq_false_iff_eq.mpr c8
   clear c8
   by_cases c9 : ((rd_T79 l0 x5_1).f4) = (wrap64 ((wrap64 ((wrap64 ((wrap64 (x1_1 + 1)) + 1)) + 1)) + 1))
   rotate_left
   ·rw [if_neg c9] at H
    have c9b0 : (((rd_T79 l0 x5_1).f4) == (wrap64 ((wrap64 ((wrap64 ((wrap64 (x1_1 + 1)) + 1)) + 1)) + 1))) = false:=beq_eq_false_iff_ne.mpr c9
    have c9b1 : (((rd_T79 l0 x5_1).f4) != (wrap64 ((wrap64 ((wrap64 ((wrap64 (x1_1 + 1)) + 1)) + 1)) + 1))) = true:=bne_iff_ne.mpr c9
    obtain rfl:=Option.some.inj H
    have p169 : 0 ≤ (x5_1 : Int):=of_decide_eq_true (by assumption)
    have q169 : x5_1 < (l0.length : Int):=of_decide_eq_true (by assumption)
    obtain ⟨ad169,e169,hx169_0,hx169_1,hx169_2,hx169_3,hx169_4,hx169_5⟩:=at_T79 HR0.out x5_1 p169 q169
    cases e169
    replace p169:=eq_true p169
    replace q169:=eq_true q169
    have p170 : 0 ≤ (x5_1 : Int):=of_decide_eq_true (by assumption)
    have q170 : x5_1 < (l0.length : Int):=of_decide_eq_true (by assumption)
    obtain ⟨ad170,e170,hx170_0,hx170_1,hx170_2,hx170_3,hx170_4,hx170_5⟩:=at_T79 HR0.out x5_1 p170 q170
    obtain rfl : ad169 = ad170:=(by injection e170)
    replace p170:=eq_true p170
    replace q170:=eq_true q170
    have p171 : 0 ≤ (x5_1 : Int):=of_decide_eq_true (by assumption)
    have q171 : x5_1 < (l0.length : Int):=of_decide_eq_true (by assumption)
    obtain ⟨ad171,e171,hx171_0,hx171_1,hx171_2,hx171_3,hx171_4,hx171_5⟩:=at_T79 HR0.out x5_1 p171 q171
    obtain rfl : ad169 = ad171:=(by injection e171)
    replace p171:=eq_true p171
    replace q171:=eq_true q171
    have p172 : 0 ≤ (x5_1 : Int):=of_decide_eq_true (by assumption)
    have q172 : x5_1 < (l0.length : Int):=of_decide_eq_true (by assumption)
    obtain ⟨ad172,e172,hx172_0,hx172_1,hx172_2,hx172_3,hx172_4,hx172_5⟩:=at_T79 HR0.out x5_1 p172 q172
    obtain rfl : ad169 = ad172:=(by injection e172)
    replace p172:=eq_true p172
    replace q172:=eq_true q172
    have p173 : 0 ≤ (x5_1 : Int):=of_decide_eq_true (by assumption)
    have q173 : x5_1 < (l0.length : Int):=of_decide_eq_true (by assumption)
    obtain ⟨ad173,e173,hx173_0,hx173_1,hx173_2,hx173_3,hx173_4,hx173_5⟩:=at_T79 HR0.out x5_1 p173 q173
    obtain rfl : ad169 = ad173:=(by injection e173)
    replace p173:=eq_true p173
    replace q173:=eq_true q173
    go_wp2
    go_ret
    exact ⟨by first | rfl | (simp;done) | (simp [*];done),by repeat (first | exact Drawn0.refl _ | apply Drawn0.step)⟩
   rw [if_pos c9] at H
   have c9b0 : (((rd_T79 l0 x5_1).f4) == (wrap64 ((wrap64 ((wrap64 ((wrap64 (x1_1 + 1)) + 1)) + 1)) + 1))) = true:=beq_iff_eq.mpr c9
   have c9b1 : (((rd_T79 l0 x5_1).f4) != (wrap64 ((wrap64 ((wrap64 ((wrap64 (x1_1 + 1)) + 1)) + 1)) + 1))) = false:=bne_eq_false_iff_eq.mpr c9
   clear c9
   by_cases c10 : ((rd_T79 l0 x5_1).f5) = (wrap64 ((wrap64 ((wrap64 ((wrap64 ((wrap64 (x1_1 + 1)) + 1)) + 1)) + 1)) + 1))
   rotate_left
   ·rw [if_neg c10] at H
    have c10b0 : (((rd_T79 l0 x5_1).f5) == (wrap64 ((wrap64 ((wrap64 ((wrap64 ((wrap64 (x1_1 + 1)) + 1)) + 1)) + 1)) + 1))) = false:=beq_eq_false_iff_ne.mpr c10
    have c10b1 : (((rd_T79 l0 x5_1).f5) != (wrap64 ((wrap64 ((wrap64 ((wrap64 ((wrap64 (x1_1 + 1)) + 1)) + 1)) + 1)) + 1))) = true:=bne_iff_ne.mpr c10
    obtain rfl:=Option.some.inj H
    have p169 : 0 ≤ (x5_1 : Int):=of_decide_eq_true (by assumption)
    have q169 : x5_1 < (l0.length : Int):=of_decide_eq_true (by assumption)
    obtain ⟨ad169,e169,hx169_0,hx169_1,hx169_2,hx169_3,hx169_4,hx169_5⟩:=at_T79 HR0.out x5_1 p169 q169
    cases e169
    replace p169:=eq_true p169
    replace q169:=eq_true q169
    have p170 : 0 ≤ (x5_1 : Int):=of_decide_eq_true (by assumption)
    have q170 : x5_1 < (l0.length : Int):=of_decide_eq_true (by assumption)
    obtain ⟨ad170,e170,hx170_0,hx170_1,hx170_2,hx170_3,hx170_4,hx170_5⟩:=at_T79 HR0.out x5_1 p170 q170
    obtain rfl : ad169 = ad170:=(by injection e170)
    replace p170:=eq_true p170
    replace q170:=eq_true q170
    have p171 : 0 ≤ (x5_1 : Int):=of_decide_eq_true (by assumption)
    have q171 : x5_1 < (l0.length : Int):=of_decide_eq_true (by assumption)
    obtain ⟨ad171,e171,hx171_0,hx171_1,hx171_2,hx171_3,hx171_4,hx171_5⟩:=at_T79 HR0.out x5_1 p171 q171
    obtain rfl : ad169 = ad171:=(by injection e171)
    replace p171:=eq_true p171
    replace q171:=eq_true q171
    have p172 : 0 ≤ (x5_1 : Int):=of_decide_eq_true (by assumption)
    have q172 : x5_1 < (l0.length : Int):=of_decide_eq_true (by assumption)
    obtain ⟨ad172,e172,hx172_0,hx172_1,hx172_2,hx172_3,hx172_4,hx172_5⟩:=at_T79 HR0.out x5_1 p172 q172
    obtain rfl : ad169 = ad172:=(by injection e172)
    replace p172:=eq_true p172
    replace q172:=eq_true q172
    have p173 : 0 ≤ (x5_1 : Int):=of_decide_eq_true (by assumption)
    have q173 : x5_1 < (l0.length : Int):=of_decide_eq_true (by assumption)
    obtain ⟨ad173,e173,hx173_0,hx173_1,hx173_2,hx173_3,hx173_4,hx173_5⟩:=at_T79 HR0.out x5_1 p173 q173
    obtain rfl : ad169 = ad173:=(by injection e173)
    replace p173:=eq_true p173
    replace q173:=eq_true q173
    have p174 : 0 ≤ (x5_1 : Int):=of_decide_eq_true (by assumption)
    have q174 : x5_1 < (l0.length : Int):=of_decide_eq_true (by assumption)
    obtain ⟨ad174,e174,hx174_0,hx174_1,hx174_2,hx174_3,hx174_4,hx174_5⟩:=at_T79 HR0.out x5_1 p174 q174
    obtain rfl : ad169 = ad174:=(by injection e174)
    replace p174:=eq_true p174
    replace q174:=eq_true q174
    go_wp2
    go_ret
    exact ⟨by first | rfl | (simp;done) | (simp [*];done),by repeat (first | exact Drawn0.refl _ | apply Drawn0.step)⟩
   rw [if_pos c10] at H
   have c10b0 : (((rd_T79 l0 x5_1).f5) == (wrap64 ((wrap64 ((wrap64 ((wrap64 ((wrap64 (x1_1 + 1)) + 1)) + 1)) + 1)) + 1))) = true:=beq_iff_eq.mpr c10
   have c10b1 : (((rd_T79 l0 x5_1).f5) != (wrap64 ((wrap64 ((wrap64 ((wrap64 ((wrap64 (x1_1 + 1)) + 1)) + 1)) + 1)) + 1))) = false:=bne_eq_false_iff_eq.mpr c10
   clear c10
   have H':=Aside0.mk H
   clear H
   have p169 : 0 ≤ (x5_1 : Int):=of_decide_eq_true (by assumption)
   have q169 : x5_1 < (l0.length : Int):=of_decide_eq_true (by assumption)
   obtain ⟨ad169,e169,hx169_0,hx169_1,hx169_2,hx169_3,hx169_4,hx169_5⟩:=at_T79 HR0.out x5_1 p169 q169
   cases e169
   replace p169:=eq_true p169
   replace q169:=eq_true q169
   have p170 : 0 ≤ (x5_1 : Int):=of_decide_eq_true (by assumption)
   have q170 : x5_1 < (l0.length : Int):=of_decide_eq_true (by assumption)
   obtain ⟨ad170,e170,hx170_0,hx170_1,hx170_2,hx170_3,hx170_4,hx170_5⟩:=at_T79 HR0.out x5_1 p170 q170
   obtain rfl : ad169 = ad170:=(by injection e170)
   replace p170:=eq_true p170
   replace q170:=eq_true q170
   have p171 : 0 ≤ (x5_1 : Int):=of_decide_eq_true (by assumption)
   have q171 : x5_1 < (l0.length : Int):=of_decide_eq_true (by assumption)
   obtain ⟨ad171,e171,hx171_0,hx171_1,hx171_2,hx171_3,hx171_4,hx171_5⟩:=at_T79 HR0.out x5_1 p171 q171
   obtain rfl : ad169 = ad171:=(by injection e171)
   replace p171:=eq_true p171
   replace q171:=eq_true q171
   have p172 : 0 ≤ (x5_1 : Int):=of_decide_eq_true (by assumption)
   have q172 : x5_1 < (l0.length : Int):=of_decide_eq_true (by assumption)
   obtain ⟨ad172,e172,hx172_0,hx172_1,hx172_2,hx172_3,hx172_4,hx172_5⟩:=at_T79 HR0.out x5_1 p172 q172
   obtain rfl : ad169 = ad172:=(by injection e172)
   replace p172:=eq_true p172
   replace q172:=eq_true q172
   have p173 : 0 ≤ (x5_1 : Int):=of_decide_eq_true (by assumption)
   have q173 : x5_1 < (l0.length : Int):=of_decide_eq_true (by assumption)
   obtain ⟨ad173,e173,hx173_0,hx173_1,hx173_2,hx173_3,hx173_4,hx173_5⟩:=at_T79 HR0.out x5_1 p173 q173
   obtain rfl : ad169 = ad173:=(by injection e173)
   replace p173:=eq_true p173
   replace q173:=eq_true q173
   have p174 : 0 ≤ (x5_1 : Int):=of_decide_eq_true (by assumption)
   have q174 : x5_1 < (l0.length : Int):=of_decide_eq_true (by assumption)
   obtain ⟨ad174,e174,hx174_0,hx174_1,hx174_2,hx174_3,hx174_4,hx174_5⟩:=at_T79 HR0.out x5_1 p174 q174
   obtain rfl : ad169 = ad174:=(by injection e174)
   replace p174:=eq_true p174
   replace q174:=eq_true q174
   go_wp2
   go_roundg k1
   case measure => have:=HK1.out;omega
   case rel => exact ⟨(wrap64 ((wrap64 ((wrap64 ((wrap64 ((wrap64 ((wrap64 (x1_1 + 1)) + 1)) + 1)) + 1)) + 1)) + 1)),(wrap64 (x5_1 + 1)),(by first | rfl | (simp;done) | (simp [*];done)),(by first | rfl | (simp;done) | (simp [*];done)),H',⟨by have:=HK1.out;omega⟩,by repeat (first | exact Drawn0.refl _ | apply Drawn0.step)⟩

/-! ### laws_heldBlockS: function 32 -/
def laws_heldBlockS.l0 : Nat → List (S56) → Int → Int → Option (Int)
 | 0,_,_,_ => none
 | k + 1,x0,x1,x5 => if x5 < (x0.length : Int) then (if 0 ≤ x5 then ((laws_heldFlatS.f k ((rd_T56 x0 x5).f0) x1).bind fun t176 => (if t176 < 0 then (some (-1)) else (if ((rd_T56 x0 x5).f1) = t176 then (if ((rd_T56 x0 x5).f2) = (wrap64 (t176 + 1)) then ((laws_heldIntS.f k ((rd_T56 x0 x5).f3) (wrap64 ((wrap64 (t176 + 1)) + 1))).bind fun t180 => (if t180 < 0 then (some (-1)) else (laws_heldBlockS.l0 k x0 t180 (wrap64 (x5 + 1))))) else (some (-1))) else (some (-1))))) else (none)) else (some x1)
def laws_heldBlockS.f (k : Nat) (l0 : List (S56)) (a1 : Int) : Option (Int):=laws_heldBlockS.l0 k l0 a1 0
theorem laws_heldBlockS.mono_l : ∀ k,(∀ y0 y1 y2,LeO (laws_heldBlockS.l0 k y0 y1 y2) (laws_heldBlockS.l0 (k + 1) y0 y1 y2))
 | 0 => fun _ _ _ r h => by simp [laws_heldBlockS.l0] at h
 | k + 1 => by
  have ih0:=laws_heldBlockS.mono_l k
  ·intro y0 y1 y2
   unfold laws_heldBlockS.l0
   repeat' first
   | (with_reducible exact ih0 _ _ _)
   | (with_reducible exact laws_heldFlatS.mono _ _ _)
   | (with_reducible exact laws_heldIntS.mono _ _ _)
   | (with_reducible exact LeO.refl _)
   | (with_reducible exact LeO.none _)
   | (with_reducible refine LeO.ite ?_ ?_)
   | (with_reducible refine LeO.bind ?_ (fun _ => ?_))
theorem laws_heldBlockS.mono : ∀ a0 a1 k,LeO (laws_heldBlockS.f k a0 a1) (laws_heldBlockS.f (k + 1) a0 a1):=by
 intro a0 a1 k
 have ih0:=laws_heldBlockS.mono_l k
 unfold laws_heldBlockS.f
 repeat' first
   | (with_reducible exact ih0 _ _ _)
   | (with_reducible exact laws_heldFlatS.mono _ _ _)
   | (with_reducible exact laws_heldIntS.mono _ _ _)
   | (with_reducible exact LeO.refl _)
   | (with_reducible exact LeO.none _)
   | (with_reducible refine LeO.ite ?_ ?_)
   | (with_reducible refine LeO.bind ?_ (fun _ => ?_))
set_option maxHeartbeats 8000000 in
set_option maxRecDepth 100000 in
theorem laws_heldBlockS.calls (k : Nat) (A0 : Option Addr) (c0 : Nat) (l0 : List (S56)) (a1 : Int) (r : Int) (w : World) (hr0 : Kd.C k56 w A0 l0.length l0) (hc0 : l0.length ≤ c0) (h : laws_heldBlockS.f k l0 a1 = some r) :
  Calls Try.prog 32 #[.slice A0 l0.length c0,.int .i64 a1] w fun e w' => e = .returned (.int .i64 r) ∧ Drawn0 w w':=by
 have HR0:=Aside0.mk hr0
 have HC0:=Aside0.mk hc0
 clear hr0 hc0
 have H : (laws_heldBlockS.l0 k l0 a1 0) = some r:=h
 clear h
 have H':=Aside0.mk H
 clear H
 go_enter Try.func32,Try.ntmps32
 go_wp2
 go_loopg [1,5] k (fun kq v1 v5 w' => ∃ (x1_1 : Int) (x5_1 : Int),v1 = .int .i64 x1_1 ∧ v5 = .int .i64 x5_1 ∧ Aside0 (laws_heldBlockS.l0 kq l0 x1_1 x5_1 = some r) ∧ Aside0 (kq ≤ k) ∧ Drawn0 w w')
 case atStart => exact ⟨(a1),(0),(by first | rfl | (simp;done) | (simp [*];done)),(by first | rfl | (simp;done) | (simp [*];done)),H',⟨Nat.le_refl _⟩,by repeat (first | exact Drawn0.refl _ | apply Drawn0.step)⟩
 case round =>
  clear H'
  try clear p2
  obtain ⟨x1_1,x5_1,rfl,rfl,HA,HK1,⟨m1,rfl⟩⟩:=hrel
  cases gk with
  | zero => exact absurd HA.out (by simp [laws_heldBlockS.l0])
  | succ k1 =>
   have H:=HA.out
   clear HA
   simp only [laws_heldBlockS.l0] at H
   by_cases c3 : x5_1 < (l0.length : Int)
   rotate_left
   ·rw [if_neg c3] at H
    have c3b0 : decide (x5_1 < (l0.length : Int)) = false:=decide_eq_false c3
    clear c3
    obtain rfl:=Option.some.inj H
    go_wp2
    go_ret
    exact ⟨by first | rfl | (simp;done) | (simp [*];done),by repeat (first | exact Drawn0.refl _ | apply Drawn0.step)⟩
   rw [if_pos c3] at H
   have c3b0 : decide (x5_1 < (l0.length : Int)) = true:=decide_eq_true c3
   clear c3
   by_cases c4 : 0 ≤ x5_1
   rotate_left
   ·rw [if_neg c4] at H
    exact absurd H (by simp)
   rw [if_pos c4] at H
   have c4b0 : decide (0 ≤ x5_1) = true:=decide_eq_true c4
   clear c4
   replace H:=Option.bind_eq_some_iff.mp H
   obtain ⟨t176,A50,H⟩:=H
   replace H : (if t176 < 0 then (some (-1)) else (if ((rd_T56 l0 x5_1).f1) = t176 then (if ((rd_T56 l0 x5_1).f2) = (wrap64 (t176 + 1)) then ((laws_heldIntS.f k1 ((rd_T56 l0 x5_1).f3) (wrap64 ((wrap64 (t176 + 1)) + 1))).bind fun t180 => (if t180 < 0 then (some (-1)) else (laws_heldBlockS.l0 k1 l0 t180 (wrap64 (x5_1 + 1))))) else (some (-1))) else (some (-1)))) = some r:=H
   have A5:=Aside0.mk A50
   clear A50
   by_cases c6 : t176 < 0
   ·rw [if_pos c6] at H
    have c6b0 : decide (t176 < 0) = true:=decide_eq_true c6
    clear c6
    obtain rfl:=Option.some.inj H
    have p175 : 0 ≤ (x5_1 : Int):=of_decide_eq_true (by assumption)
    have q175 : x5_1 < (l0.length : Int):=of_decide_eq_true (by assumption)
    obtain ⟨ad175,A175_0,c175_0,A175_3,c175_3,e175,hx175_0,hx175_1,hx175_2,hx175_3,hl175_0,hi175_0,hl175_3,hi175_3⟩:=at_T56 HR0.out x5_1 p175 q175
    cases e175
    have HR175_0:=Aside0.mk hi175_0
    have HC175_0:=Aside0.mk hl175_0
    clear hi175_0 hl175_0
    have HR175_3:=Aside0.mk hi175_3
    have HC175_3:=Aside0.mk hl175_3
    clear hi175_3 hl175_3
    replace p175:=eq_true p175
    replace q175:=eq_true q175
    go_wp2_with (first | ((with_reducible refine gate_callee (f:=56) rfl ?_);refine goesL_ (some 18) rfl rfl Try.func56 (by kernel_rfl) rfl #[.slice A175_0 ((rd_T56 l0 x5_1).f0).length c175_0,.int .i64 x1_1] rfl (by (try simp only [List.map_toArray,List.map_cons,List.map_nil]);first | done | rfl | (simp only [List.length_drop,List.length_take];rfl)) ?_;(with_reducible refine (laws_heldFlatS.calls k1 _ _ ((rd_T56 l0 x5_1).f0) x1_1 t176 _ ?side1 ?side2 A5.out).mono ?_);(case side1 => repeat (first | exact HR175_0.out | (with_reducible refine Kd.C_alloc ?_ _) | (with_reducible refine Kd.C_drewN ?_ _) | (with_reducible refine Kd.C_drew ?_)));(case side2 => exact HC175_0.out);rintro e w' ⟨rfl,⟨nd,rfl⟩⟩;refine ⟨_,rfl,?_⟩))
    go_ret
    exact ⟨by first | rfl | (simp;done) | (simp [*];done),by repeat (first | exact Drawn0.refl _ | apply Drawn0.step)⟩
   rw [if_neg c6] at H
   have c6b0 : decide (t176 < 0) = false:=decide_eq_false c6
   clear c6
   by_cases c7 : ((rd_T56 l0 x5_1).f1) = t176
   rotate_left
   ·rw [if_neg c7] at H
    have c7b0 : (((rd_T56 l0 x5_1).f1) == t176) = false:=beq_eq_false_iff_ne.mpr c7
    have c7b1 : (((rd_T56 l0 x5_1).f1) != t176) = true:=bne_iff_ne.mpr c7
    obtain rfl:=Option.some.inj H
    have p175 : 0 ≤ (x5_1 : Int):=of_decide_eq_true (by assumption)
    have q175 : x5_1 < (l0.length : Int):=of_decide_eq_true (by assumption)
    obtain ⟨ad175,A175_0,c175_0,A175_3,c175_3,e175,hx175_0,hx175_1,hx175_2,hx175_3,hl175_0,hi175_0,hl175_3,hi175_3⟩:=at_T56 HR0.out x5_1 p175 q175
    cases e175
    have HR175_0:=Aside0.mk hi175_0
    have HC175_0:=Aside0.mk hl175_0
    clear hi175_0 hl175_0
    have HR175_3:=Aside0.mk hi175_3
    have HC175_3:=Aside0.mk hl175_3
    clear hi175_3 hl175_3
    replace p175:=eq_true p175
    replace q175:=eq_true q175
    go_wp2_with (first | ((with_reducible refine gate_callee (f:=56) rfl ?_);refine goesL_ (some 18) rfl rfl Try.func56 (by kernel_rfl) rfl #[.slice A175_0 ((rd_T56 l0 x5_1).f0).length c175_0,.int .i64 x1_1] rfl (by (try simp only [List.map_toArray,List.map_cons,List.map_nil]);first | done | rfl | (simp only [List.length_drop,List.length_take];rfl)) ?_;(with_reducible refine (laws_heldFlatS.calls k1 _ _ ((rd_T56 l0 x5_1).f0) x1_1 t176 _ ?side1 ?side2 A5.out).mono ?_);(case side1 => repeat (first | exact HR175_0.out | (with_reducible refine Kd.C_alloc ?_ _) | (with_reducible refine Kd.C_drewN ?_ _) | (with_reducible refine Kd.C_drew ?_)));(case side2 => exact HC175_0.out);rintro e w' ⟨rfl,⟨nd,rfl⟩⟩;refine ⟨_,rfl,?_⟩;have p177 : 0 ≤ (x5_1 : Int):=of_decide_eq_true (by assumption);have q177 : x5_1 < (l0.length : Int):=of_decide_eq_true (by assumption);obtain ⟨ad177,A177_0,c177_0,A177_3,c177_3,e177,hx177_0,hx177_1,hx177_2,hx177_3,hl177_0,hi177_0,hl177_3,hi177_3⟩:=at_T56 HR0.out x5_1 p177 q177;obtain rfl : ad175 = ad177:=(by injection e177);have HR177_0:=Aside0.mk hi177_0;have HC177_0:=Aside0.mk hl177_0;clear hi177_0 hl177_0;have HR177_3:=Aside0.mk hi177_3;have HC177_3:=Aside0.mk hl177_3;clear hi177_3 hl177_3;replace p177:=eq_true p177;replace q177:=eq_true q177;have ea_:=Option.some.inj (hx175_0.symm.trans hx177_0);injection ea_ with ea_ en_ ec_;subst ea_;subst ec_;clear en_;have ea_:=Option.some.inj (hx175_3.symm.trans hx177_3);injection ea_ with ea_ en_ ec_;subst ea_;subst ec_;clear en_))
    go_ret
    exact ⟨by first | rfl | (simp;done) | (simp [*];done),by repeat (first | exact Drawn0.refl _ | apply Drawn0.step)⟩
   rw [if_pos c7] at H
   have c7b0 : (((rd_T56 l0 x5_1).f1) == t176) = true:=beq_iff_eq.mpr c7
   have c7b1 : (((rd_T56 l0 x5_1).f1) != t176) = false:=bne_eq_false_iff_eq.mpr c7
   clear c7
   by_cases c8 : ((rd_T56 l0 x5_1).f2) = (wrap64 (t176 + 1))
   rotate_left
   ·rw [if_neg c8] at H
    have c8b0 : (((rd_T56 l0 x5_1).f2) == (wrap64 (t176 + 1))) = false:=beq_eq_false_iff_ne.mpr c8
    have c8b1 : (((rd_T56 l0 x5_1).f2) != (wrap64 (t176 + 1))) = true:=bne_iff_ne.mpr c8
    obtain rfl:=Option.some.inj H
    have p175 : 0 ≤ (x5_1 : Int):=of_decide_eq_true (by assumption)
    have q175 : x5_1 < (l0.length : Int):=of_decide_eq_true (by assumption)
    obtain ⟨ad175,A175_0,c175_0,A175_3,c175_3,e175,hx175_0,hx175_1,hx175_2,hx175_3,hl175_0,hi175_0,hl175_3,hi175_3⟩:=at_T56 HR0.out x5_1 p175 q175
    cases e175
    have HR175_0:=Aside0.mk hi175_0
    have HC175_0:=Aside0.mk hl175_0
    clear hi175_0 hl175_0
    have HR175_3:=Aside0.mk hi175_3
    have HC175_3:=Aside0.mk hl175_3
    clear hi175_3 hl175_3
    replace p175:=eq_true p175
    replace q175:=eq_true q175
    go_wp2_with (first | ((with_reducible refine gate_callee (f:=56) rfl ?_);refine goesL_ (some 18) rfl rfl Try.func56 (by kernel_rfl) rfl #[.slice A175_0 ((rd_T56 l0 x5_1).f0).length c175_0,.int .i64 x1_1] rfl (by (try simp only [List.map_toArray,List.map_cons,List.map_nil]);first | done | rfl | (simp only [List.length_drop,List.length_take];rfl)) ?_;(with_reducible refine (laws_heldFlatS.calls k1 _ _ ((rd_T56 l0 x5_1).f0) x1_1 t176 _ ?side1 ?side2 A5.out).mono ?_);(case side1 => repeat (first | exact HR175_0.out | (with_reducible refine Kd.C_alloc ?_ _) | (with_reducible refine Kd.C_drewN ?_ _) | (with_reducible refine Kd.C_drew ?_)));(case side2 => exact HC175_0.out);rintro e w' ⟨rfl,⟨nd,rfl⟩⟩;refine ⟨_,rfl,?_⟩;have p177 : 0 ≤ (x5_1 : Int):=of_decide_eq_true (by assumption);have q177 : x5_1 < (l0.length : Int):=of_decide_eq_true (by assumption);obtain ⟨ad177,A177_0,c177_0,A177_3,c177_3,e177,hx177_0,hx177_1,hx177_2,hx177_3,hl177_0,hi177_0,hl177_3,hi177_3⟩:=at_T56 HR0.out x5_1 p177 q177;obtain rfl : ad175 = ad177:=(by injection e177);have HR177_0:=Aside0.mk hi177_0;have HC177_0:=Aside0.mk hl177_0;clear hi177_0 hl177_0;have HR177_3:=Aside0.mk hi177_3;have HC177_3:=Aside0.mk hl177_3;clear hi177_3 hl177_3;replace p177:=eq_true p177;replace q177:=eq_true q177;have ea_:=Option.some.inj (hx175_0.symm.trans hx177_0);injection ea_ with ea_ en_ ec_;subst ea_;subst ec_;clear en_;have ea_:=Option.some.inj (hx175_3.symm.trans hx177_3);injection ea_ with ea_ en_ ec_;subst ea_;subst ec_;clear en_;have p178 : 0 ≤ (x5_1 : Int):=of_decide_eq_true (by assumption);have q178 : x5_1 < (l0.length : Int):=of_decide_eq_true (by assumption);obtain ⟨ad178,A178_0,c178_0,A178_3,c178_3,e178,hx178_0,hx178_1,hx178_2,hx178_3,hl178_0,hi178_0,hl178_3,hi178_3⟩:=at_T56 HR0.out x5_1 p178 q178;obtain rfl : ad175 = ad178:=(by injection e178);have HR178_0:=Aside0.mk hi178_0;have HC178_0:=Aside0.mk hl178_0;clear hi178_0 hl178_0;have HR178_3:=Aside0.mk hi178_3;have HC178_3:=Aside0.mk hl178_3;clear hi178_3 hl178_3;replace p178:=eq_true p178;replace q178:=eq_true q178;have ea_:=Option.some.inj (hx175_0.symm.trans hx178_0);injection ea_ with ea_ en_ ec_;subst ea_;subst ec_;clear en_;have ea_:=Option.some.inj (hx175_3.symm.trans hx178_3);injection ea_ with ea_ en_ ec_;subst ea_;subst ec_;clear en_))
    go_ret
    exact ⟨by first | rfl | (simp;done) | (simp [*];done),by repeat (first | exact Drawn0.refl _ | apply Drawn0.step)⟩
   rw [if_pos c8] at H
   have c8b0 : (((rd_T56 l0 x5_1).f2) == (wrap64 (t176 + 1))) = true:=beq_iff_eq.mpr c8
   have c8b1 : (((rd_T56 l0 x5_1).f2) != (wrap64 (t176 + 1))) = false:=bne_eq_false_iff_eq.mpr c8
   clear c8
   replace H:=Option.bind_eq_some_iff.mp H
   obtain ⟨t180,A90,H⟩:=H
   replace H : (if t180 < 0 then (some (-1)) else (laws_heldBlockS.l0 k1 l0 t180 (wrap64 (x5_1 + 1)))) = some r:=H
   have A9:=Aside0.mk A90
   clear A90
   by_cases c10 : t180 < 0
   ·rw [if_pos c10] at H
    have c10b0 : decide (t180 < 0) = true:=decide_eq_true c10
    clear c10
    obtain rfl:=Option.some.inj H
    have p175 : 0 ≤ (x5_1 : Int):=of_decide_eq_true (by assumption)
    have q175 : x5_1 < (l0.length : Int):=of_decide_eq_true (by assumption)
    obtain ⟨ad175,A175_0,c175_0,A175_3,c175_3,e175,hx175_0,hx175_1,hx175_2,hx175_3,hl175_0,hi175_0,hl175_3,hi175_3⟩:=at_T56 HR0.out x5_1 p175 q175
    cases e175
    have HR175_0:=Aside0.mk hi175_0
    have HC175_0:=Aside0.mk hl175_0
    clear hi175_0 hl175_0
    have HR175_3:=Aside0.mk hi175_3
    have HC175_3:=Aside0.mk hl175_3
    clear hi175_3 hl175_3
    replace p175:=eq_true p175
    replace q175:=eq_true q175
    go_wp2_with (first | ((with_reducible refine gate_callee (f:=56) rfl ?_);refine goesL_ (some 18) rfl rfl Try.func56 (by kernel_rfl) rfl #[.slice A175_0 ((rd_T56 l0 x5_1).f0).length c175_0,.int .i64 x1_1] rfl (by (try simp only [List.map_toArray,List.map_cons,List.map_nil]);first | done | rfl | (simp only [List.length_drop,List.length_take];rfl)) ?_;(with_reducible refine (laws_heldFlatS.calls k1 _ _ ((rd_T56 l0 x5_1).f0) x1_1 t176 _ ?side1 ?side2 A5.out).mono ?_);(case side1 => repeat (first | exact HR175_0.out | (with_reducible refine Kd.C_alloc ?_ _) | (with_reducible refine Kd.C_drewN ?_ _) | (with_reducible refine Kd.C_drew ?_)));(case side2 => exact HC175_0.out);rintro e w' ⟨rfl,⟨nd,rfl⟩⟩;refine ⟨_,rfl,?_⟩;have p177 : 0 ≤ (x5_1 : Int):=of_decide_eq_true (by assumption);have q177 : x5_1 < (l0.length : Int):=of_decide_eq_true (by assumption);obtain ⟨ad177,A177_0,c177_0,A177_3,c177_3,e177,hx177_0,hx177_1,hx177_2,hx177_3,hl177_0,hi177_0,hl177_3,hi177_3⟩:=at_T56 HR0.out x5_1 p177 q177;obtain rfl : ad175 = ad177:=(by injection e177);have HR177_0:=Aside0.mk hi177_0;have HC177_0:=Aside0.mk hl177_0;clear hi177_0 hl177_0;have HR177_3:=Aside0.mk hi177_3;have HC177_3:=Aside0.mk hl177_3;clear hi177_3 hl177_3;replace p177:=eq_true p177;replace q177:=eq_true q177;have ea_:=Option.some.inj (hx175_0.symm.trans hx177_0);injection ea_ with ea_ en_ ec_;subst ea_;subst ec_;clear en_;have ea_:=Option.some.inj (hx175_3.symm.trans hx177_3);injection ea_ with ea_ en_ ec_;subst ea_;subst ec_;clear en_;have p178 : 0 ≤ (x5_1 : Int):=of_decide_eq_true (by assumption);have q178 : x5_1 < (l0.length : Int):=of_decide_eq_true (by assumption);obtain ⟨ad178,A178_0,c178_0,A178_3,c178_3,e178,hx178_0,hx178_1,hx178_2,hx178_3,hl178_0,hi178_0,hl178_3,hi178_3⟩:=at_T56 HR0.out x5_1 p178 q178;obtain rfl : ad175 = ad178:=(by injection e178);have HR178_0:=Aside0.mk hi178_0;have HC178_0:=Aside0.mk hl178_0;clear hi178_0 hl178_0;have HR178_3:=Aside0.mk hi178_3;have HC178_3:=Aside0.mk hl178_3;clear hi178_3 hl178_3;replace p178:=eq_true p178;replace q178:=eq_true q178;have ea_:=Option.some.inj (hx175_0.symm.trans hx178_0);injection ea_ with ea_ en_ ec_;subst ea_;subst ec_;clear en_;have ea_:=Option.some.inj (hx175_3.symm.trans hx178_3);injection ea_ with ea_ en_ ec_;subst ea_;subst ec_;clear en_;have p179 : 0 ≤ (x5_1 : Int):=of_decide_eq_true (by assumption);have q179 : x5_1 < (l0.length : Int):=of_decide_eq_true (by assumption);obtain ⟨ad179,A179_0,c179_0,A179_3,c179_3,e179,hx179_0,hx179_1,hx179_2,hx179_3,hl179_0,hi179_0,hl179_3,hi179_3⟩:=at_T56 HR0.out x5_1 p179 q179;obtain rfl : ad175 = ad179:=(by injection e179);have HR179_0:=Aside0.mk hi179_0;have HC179_0:=Aside0.mk hl179_0;clear hi179_0 hl179_0;have HR179_3:=Aside0.mk hi179_3;have HC179_3:=Aside0.mk hl179_3;clear hi179_3 hl179_3;replace p179:=eq_true p179;replace q179:=eq_true q179;have ea_:=Option.some.inj (hx175_0.symm.trans hx179_0);injection ea_ with ea_ en_ ec_;subst ea_;subst ec_;clear en_;have ea_:=Option.some.inj (hx175_3.symm.trans hx179_3);injection ea_ with ea_ en_ ec_;subst ea_;subst ec_;clear en_) | ((with_reducible refine gate_callee (f:=24) rfl ?_);refine goesL_ (some 45) rfl rfl Try.func24 (by kernel_rfl) rfl #[.slice A175_3 ((rd_T56 l0 x5_1).f3).length c175_3,.int .i64 (wrap64 ((wrap64 (t176 + 1)) + 1))] rfl (by (try simp only [List.map_toArray,List.map_cons,List.map_nil]);first | done | rfl | (simp only [List.length_drop,List.length_take];rfl)) ?_;(with_reducible refine (laws_heldIntS.calls k1 _ _ ((rd_T56 l0 x5_1).f3) (wrap64 ((wrap64 (t176 + 1)) + 1)) t180 _ ?side1 ?side2 A9.out).mono ?_);(case side1 => repeat (first | exact HR179_3.out | (with_reducible refine Kd.C_alloc ?_ _) | (with_reducible refine Kd.C_drewN ?_ _) | (with_reducible refine Kd.C_drew ?_)));(case side2 => exact HC179_3.out);rintro e w' ⟨rfl,⟨nd,rfl⟩⟩;refine ⟨_,rfl,?_⟩))
    go_ret
    exact ⟨by first | rfl | (simp;done) | (simp [*];done),by repeat (first | exact Drawn0.refl _ | apply Drawn0.step)⟩
   rw [if_neg c10] at H
   have c10b0 : decide (t180 < 0) = false:=decide_eq_false c10
   clear c10
   have H':=Aside0.mk H
   clear H
   have p175 : 0 ≤ (x5_1 : Int):=of_decide_eq_true (by assumption)
   have q175 : x5_1 < (l0.length : Int):=of_decide_eq_true (by assumption)
   obtain ⟨ad175,A175_0,c175_0,A175_3,c175_3,e175,hx175_0,hx175_1,hx175_2,hx175_3,hl175_0,hi175_0,hl175_3,hi175_3⟩:=at_T56 HR0.out x5_1 p175 q175
   cases e175
   have HR175_0:=Aside0.mk hi175_0
   have HC175_0:=Aside0.mk hl175_0
   clear hi175_0 hl175_0
   have HR175_3:=Aside0.mk hi175_3
   have HC175_3:=Aside0.mk hl175_3
   clear hi175_3 hl175_3
   replace p175:=eq_true p175
   replace q175:=eq_true q175
   go_wp2_with (first | ((with_reducible refine gate_callee (f:=56) rfl ?_);refine goesL_ (some 18) rfl rfl Try.func56 (by kernel_rfl) rfl #[.slice A175_0 ((rd_T56 l0 x5_1).f0).length c175_0,.int .i64 x1_1] rfl (by (try simp only [List.map_toArray,List.map_cons,List.map_nil]);first | done | rfl | (simp only [List.length_drop,List.length_take];rfl)) ?_;(with_reducible refine (laws_heldFlatS.calls k1 _ _ ((rd_T56 l0 x5_1).f0) x1_1 t176 _ ?side1 ?side2 A5.out).mono ?_);(case side1 => repeat (first | exact HR175_0.out | (with_reducible refine Kd.C_alloc ?_ _) | (with_reducible refine Kd.C_drewN ?_ _) | (with_reducible refine Kd.C_drew ?_)));(case side2 => exact HC175_0.out);rintro e w' ⟨rfl,⟨nd,rfl⟩⟩;refine ⟨_,rfl,?_⟩;have p177 : 0 ≤ (x5_1 : Int):=of_decide_eq_true (by assumption);have q177 : x5_1 < (l0.length : Int):=of_decide_eq_true (by assumption);obtain ⟨ad177,A177_0,c177_0,A177_3,c177_3,e177,hx177_0,hx177_1,hx177_2,hx177_3,hl177_0,hi177_0,hl177_3,hi177_3⟩:=at_T56 HR0.out x5_1 p177 q177;obtain rfl : ad175 = ad177:=(by injection e177);have HR177_0:=Aside0.mk hi177_0;have HC177_0:=Aside0.mk hl177_0;clear hi177_0 hl177_0;have HR177_3:=Aside0.mk hi177_3;have HC177_3:=Aside0.mk hl177_3;clear hi177_3 hl177_3;replace p177:=eq_true p177;replace q177:=eq_true q177;have ea_:=Option.some.inj (hx175_0.symm.trans hx177_0);injection ea_ with ea_ en_ ec_;subst ea_;subst ec_;clear en_;have ea_:=Option.some.inj (hx175_3.symm.trans hx177_3);injection ea_ with ea_ en_ ec_;subst ea_;subst ec_;clear en_;have p178 : 0 ≤ (x5_1 : Int):=of_decide_eq_true (by assumption);have q178 : x5_1 < (l0.length : Int):=of_decide_eq_true (by assumption);obtain ⟨ad178,A178_0,c178_0,A178_3,c178_3,e178,hx178_0,hx178_1,hx178_2,hx178_3,hl178_0,hi178_0,hl178_3,hi178_3⟩:=at_T56 HR0.out x5_1 p178 q178;obtain rfl : ad175 = ad178:=(by injection e178);have HR178_0:=Aside0.mk hi178_0;have HC178_0:=Aside0.mk hl178_0;clear hi178_0 hl178_0;have HR178_3:=Aside0.mk hi178_3;have HC178_3:=Aside0.mk hl178_3;clear hi178_3 hl178_3;replace p178:=eq_true p178;replace q178:=eq_true q178;have ea_:=Option.some.inj (hx175_0.symm.trans hx178_0);injection ea_ with ea_ en_ ec_;subst ea_;subst ec_;clear en_;have ea_:=Option.some.inj (hx175_3.symm.trans hx178_3);injection ea_ with ea_ en_ ec_;subst ea_;subst ec_;clear en_;have p179 : 0 ≤ (x5_1 : Int):=of_decide_eq_true (by assumption);have q179 : x5_1 < (l0.length : Int):=of_decide_eq_true (by assumption);obtain ⟨ad179,A179_0,c179_0,A179_3,c179_3,e179,hx179_0,hx179_1,hx179_2,hx179_3,hl179_0,hi179_0,hl179_3,hi179_3⟩:=at_T56 HR0.out x5_1 p179 q179;obtain rfl : ad175 = ad179:=(by injection e179);have HR179_0:=Aside0.mk hi179_0;have HC179_0:=Aside0.mk hl179_0;clear hi179_0 hl179_0;have HR179_3:=Aside0.mk hi179_3;have HC179_3:=Aside0.mk hl179_3;clear hi179_3 hl179_3;replace p179:=eq_true p179;replace q179:=eq_true q179;have ea_:=Option.some.inj (hx175_0.symm.trans hx179_0);injection ea_ with ea_ en_ ec_;subst ea_;subst ec_;clear en_;have ea_:=Option.some.inj (hx175_3.symm.trans hx179_3);injection ea_ with ea_ en_ ec_;subst ea_;subst ec_;clear en_) | ((with_reducible refine gate_callee (f:=24) rfl ?_);refine goesL_ (some 45) rfl rfl Try.func24 (by kernel_rfl) rfl #[.slice A175_3 ((rd_T56 l0 x5_1).f3).length c175_3,.int .i64 (wrap64 ((wrap64 (t176 + 1)) + 1))] rfl (by (try simp only [List.map_toArray,List.map_cons,List.map_nil]);first | done | rfl | (simp only [List.length_drop,List.length_take];rfl)) ?_;(with_reducible refine (laws_heldIntS.calls k1 _ _ ((rd_T56 l0 x5_1).f3) (wrap64 ((wrap64 (t176 + 1)) + 1)) t180 _ ?side1 ?side2 A9.out).mono ?_);(case side1 => repeat (first | exact HR179_3.out | (with_reducible refine Kd.C_alloc ?_ _) | (with_reducible refine Kd.C_drewN ?_ _) | (with_reducible refine Kd.C_drew ?_)));(case side2 => exact HC179_3.out);rintro e w' ⟨rfl,⟨nd,rfl⟩⟩;refine ⟨_,rfl,?_⟩))
   go_roundg k1
   case measure => have:=HK1.out;omega
   case rel => exact ⟨(t180),(wrap64 (x5_1 + 1)),(by first | rfl | (simp;done) | (simp [*];done)),(by first | rfl | (simp;done) | (simp [*];done)),H',⟨by have:=HK1.out;omega⟩,by repeat (first | exact Drawn0.refl _ | apply Drawn0.step)⟩

end Go.Proofs.Ythgkhfhfahifmaa.Q
