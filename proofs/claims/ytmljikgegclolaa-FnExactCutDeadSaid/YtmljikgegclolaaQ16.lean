-- WRITTEN BY A PROGRAM OF THIS SESSION
import Derived.Test.YtmljikgegclolaaQ0
import Derived.Test.YtmljikgegclolaaQ1
import Derived.Test.YtmljikgegclolaaQ2
import Derived.Test.YtmljikgegclolaaQ3
import Derived.Test.YtmljikgegclolaaQ10
import Derived.Test.YtmljikgegclolaaQ15
namespace Go.Proofs.Ytmljikgegclolaa.Q
open Go.RowKit Go.Proofs.YtmljikgegclolaaW.PrintWords Go.Proofs.YtmljikgegclolaaW.PrintLast Go.Proofs.YtmljikgegclolaaW.PrintMore
attribute [local go_sem] max2_int min2_int max_two min_two max_three min_three max_four min_four   -- for this text's walks alone
set_option linter.unusedVariables false
set_option linter.unusedSimpArgs false

/-! ### impl_validOf: function 67 (by hand: a pointer that came back is handed on, or nil) -/
def impl_validOf.p (r : Option WRes) : Option WRes:=match r with
 | none => none
 | some x => if x.code = 0 then some x else none
def impl_validOf.f (k : Nat) (l : List S56) : Option (Option WRes):=(impl_walkOf.f k l).bind fun r => some (impl_validOf.p r)
theorem impl_validOf.mono : ∀ a0 k,LeO (impl_validOf.f k a0) (impl_validOf.f (k + 1) a0):=fun _ k => LeO.bind (impl_walkOf.mono _ _) (fun _ => LeO.refl _)
set_option maxHeartbeats 8000000 in
set_option maxRecDepth 100000 in
theorem impl_validOf.calls (k : Nat) (A0 : Option Addr) (c0 : Nat) (l0 : List S56) (r : Option WRes) (w : World) (hr0 : Kd.C k56 w A0 l0.length l0) (hc0 : l0.length ≤ c0) (h : impl_validOf.f k l0 = some r) :
  Calls Try.prog 67 #[.slice A0 l0.length c0] w fun e w' => ∃ v0_ : Value,e = .returned (v0_) ∧ WalkRet w' w.heap.size l0.length c0 A0 r v0_ ∧ Below w.heap.size w w':=by
 have hu84:=Try.underlying84
 have HR0:=Aside0.mk hr0
 have HC0:=Aside0.mk hc0
 clear hr0 hc0
 unfold impl_validOf.f at h
 obtain ⟨s,A1,H⟩:=Option.bind_eq_some_iff.mp h
 have A1:=Aside0.mk A1
 obtain rfl:=Option.some.inj H
 clear h H
 cases s with
 | none =>
  go_enter Try.func67,Try.ntmps67
  go_wp2_with (first | (go_at_call 65;refine (impl_walkOf.calls k _ _ l0 none _ HR0.out HC0.out A1.out).mono ?_;rintro e w2 ⟨v,rfl,hv,hb⟩;have HB2:=Aside0.mk hb;obtain rfl : v = .pointer none:=hv;clear hb))
  go_ret
  exact ⟨_,rfl,rfl,HB2.out⟩
 | some x =>
  by_cases cc : x.code = 0
  ·have ec : impl_validOf.p (some x) = some x:=if_pos cc
   rw [ec]
   have ccb : (x.code != 0) = false:=by simpa using cc
   clear cc ec
   go_enter Try.func67,Try.ntmps67
   go_wp2_with (first | (go_at_call 65;refine (impl_walkOf.calls k _ _ l0 (some x) _ HR0.out HC0.out A1.out).mono ?_;rintro e w2 ⟨v,rfl,hv,hb⟩;have HB2:=Aside0.mk hb;obtain ⟨g,rfl,hs⟩ : ∃ g,v = .pointer (some ⟨g,0,none⟩) ∧ WalkAt w2 w.heap.size g l0.length c0 A0 x:=hv;have HS:=Aside0.mk hs;obtain ⟨_,⟨gs,vh,vd,vb,hblk,_⟩⟩:=hs;have hg4 : w2.cell? ⟨g,4,none⟩ = some (.int .i64 x.code):=(blk_cell hblk 4).trans rfl;clear hb hblk))
   go_ret
   exact ⟨_,rfl,⟨g,rfl,HS.out⟩,HB2.out⟩
  ·have ec : impl_validOf.p (some x) = none:=if_neg cc
   rw [ec]
   have ccb : (x.code != 0) = true:=by simpa using cc
   clear cc ec
   go_enter Try.func67,Try.ntmps67
   go_wp2_with (first | (go_at_call 65;refine (impl_walkOf.calls k _ _ l0 (some x) _ HR0.out HC0.out A1.out).mono ?_;rintro e w2 ⟨v,rfl,hv,hb⟩;have HB2:=Aside0.mk hb;obtain ⟨g,rfl,hs⟩ : ∃ g,v = .pointer (some ⟨g,0,none⟩) ∧ WalkAt w2 w.heap.size g l0.length c0 A0 x:=hv;have HS:=Aside0.mk hs;obtain ⟨_,⟨gs,vh,vd,vb,hblk,_⟩⟩:=hs;have hg4 : w2.cell? ⟨g,4,none⟩ = some (.int .i64 x.code):=(blk_cell hblk 4).trans rfl;clear hb hblk))
   go_ret
   exact ⟨_,rfl,rfl,HB2.out⟩

/-! ### impl_walk_stays: function 93 (by hand: rows behind a pointer, and behind a pointer in it, are read) -/
theorem WalkAt.step {W W' : World} {base gk n c : Nat} {A : Option Addr} {x : WRes} (h : WalkAt W base gk n c A x) (hb : Below W.heap.size W W') : WalkAt W' base gk n c A x:=by
 obtain ⟨h1,gs,vh,vd,vb,h2,h3,h4,h5,h6⟩:=h
 exact ⟨h1,gs,vh,vd,vb,blk_below h2 hb,h3.step hb,Kd.R_below h4 hb,Kd.R_below h5 hb,Kd.R_below h6 hb⟩
def impl_walk_stays.f (l : List S56) (ds : List Bool) (e : List Int) (i : Nat) : Option Bool :=
 if i < l.length ∧ l.length ≤ 60 ∧ l.length ≤ ds.length then
  (if rdOf false ds (i : Int) = false then some true
  else if (rd_T56 l (i : Int)).f0 = 19 then (if 0 ≤ rd e (i : Int) ∧ rd e (i : Int) < (l.length : Int) then some (!(rdOf false ds (rd e (i : Int)))) else none)
  else if (rd_T56 l (i : Int)).f0 = 18 then (if 0 ≤ rd e (i : Int) ∧ rd e (i : Int) < (l.length : Int) then (if 0 ≤ rd e (rd e (i : Int)) ∧ rd e (rd e (i : Int)) < (l.length : Int) then some (!(rdOf false ds (rd e (rd e (i : Int))))) else none) else none)
  else some false)
 else none
set_option maxHeartbeats 8000000 in
set_option maxRecDepth 100000 in
theorem impl_walk_stays.calls (base g : Nat) (A0 : Option Addr) (c0 : Nat) (l0 : List S56) (x : WRes) (i : Nat) (r : Bool) (w : World) (hr0 : Kd.C k56 w A0 l0.length l0) (hs : WalkAt w base g l0.length c0 A0 x) (h : impl_walk_stays.f l0 x.ds x.e i = some r) :
  Calls Try.prog 93 #[.pointer (some ⟨g,0,none⟩),.int .i64 (i : Int)] w fun e w' => e = .returned (.bool r) ∧ Drawn0 w w':=by
 have hu56:=Try.underlying56
 have hu63:=Try.underlying63
 have hu84:=Try.underlying84
 obtain ⟨_,gs,vh,vd,vb,hblk,⟨_,⟨ve,vo,vp,hsb,he,_,_⟩,hel,_,_⟩,_,hd,_⟩:=hs
 unfold impl_walk_stays.f at h
 by_cases c1 : i < l0.length ∧ l0.length ≤ 60 ∧ l0.length ≤ x.ds.length
 rotate_left
 ·rw [if_neg c1] at h;exact absurd h (by simp)
 rw [if_pos c1] at h
 obtain ⟨q1,q2,q3⟩:=c1
 obtain ⟨ge,ce,ee,_⟩:=Kd.R_form he (by omega)
 subst ee
 obtain ⟨gd,cd,ed,_⟩:=Kd.R_form hd (by omega)
 subst ed
 have HE:=Aside0.mk he
 have HD:=Aside0.mk hd
 have HEL:=Aside0.mk hel
 have hg0 : w.cell? ⟨g,0,none⟩ = some (.pointer (some ⟨gs,0,none⟩)):=(blk_cell hblk 0).trans rfl
 have hg2 : w.cell? ⟨g,2,none⟩ = some (.slice (some ⟨gd,0,none⟩) x.ds.length cd):=(blk_cell hblk 2).trans rfl
 have hs0 : w.cell? ⟨gs,0,none⟩ = some (.slice A0 l0.length c0):=(blk_cell hsb 0).trans rfl
 have hs1 : w.cell? ⟨gs,1,none⟩ = some (.slice (some ⟨ge,0,none⟩) l0.length ce):=(blk_cell hsb 1).trans (by rw [hel];rfl)
 obtain ⟨hxd,_⟩:=Kd.R_celln (false : Bool) hd (i : Int) (by omega) (by omega)
 obtain ⟨hxe,_⟩:=Kd.R_celln (0 : Int) he (i : Int) (by omega) (by rw [hel];omega)
 obtain ⟨adl,AT,cT,eA,hx0,_,_,_,_⟩:=at_T56 hr0 (i : Int) (by omega) (by omega)
 cases eA
 rw [Int.toNat_natCast] at hxd hxe hx0
 obtain ⟨y,hy⟩ : ∃ y,y = (rd_T56 l0 (i : Int)).f0:=⟨_,rfl⟩
 obtain ⟨j,hj⟩ : ∃ j,j = rd x.e (i : Int):=⟨_,rfl⟩
 obtain ⟨d,hdd⟩ : ∃ d,d = rdOf false x.ds (i : Int):=⟨_,rfl⟩
 rw [← hy] at hx0 h
 rw [← hj] at h
 rw [show rdOf (0 : Int) x.e (i : Int) = j from hj.symm] at hxe
 rw [← hdd] at hxd h
 have p1 : (0 : Int) ≤ (i : Int):=by omega
 have p2 : (i : Int) < (l0.length : Int):=by omega
 have p3 : (i : Int) < (x.ds.length : Int):=by omega
 have p4 : (i : Int) ≤ 60:=by omega
 have Q:=Aside0.mk (And.intro q1 (And.intro q2 q3))
 clear hr0 hblk hsb he hd hel hy hj hdd q1 q2 q3
 cases d with
 | false =>
  rw [if_pos rfl] at h
  obtain rfl:=Option.some.inj h
  clear h
  go_enter Try.func93,Try.ntmps93
  go_wp2
  go_ret
  exact ⟨rfl,Drawn0.refl _⟩
 | true =>
  rw [if_neg (by decide)] at h
  by_cases c2 : y = 19
  ·rw [if_pos c2] at h
   have f19 : (y == 19) = true:=by simpa using c2
   by_cases c3 : 0 ≤ j ∧ j < (l0.length : Int)
   rotate_left
   ·rw [if_neg c3] at h;exact absurd h (by simp)
   rw [if_pos c3] at h
   obtain rfl:=Option.some.inj h
   obtain ⟨hxj,_⟩:=Kd.R_celln (false : Bool) HD.out j c3.1 (by have:=Q.out;omega)
   have p5 : 0 ≤ j:=c3.1
   have p6 : j < (x.ds.length : Int):=by have:=Q.out;omega
   obtain ⟨dj,hdj⟩ : ∃ dj,dj = rdOf false x.ds j:=⟨_,rfl⟩
   rw [← hdj] at hxj ⊢
   replace p5:=eq_true p5
   replace p6:=eq_true p6
   clear h c2 c3 hdj
   go_enter Try.func93,Try.ntmps93
   go_wp2
   go_quiet (fail)
   go_wp2
   go_ret
   exact ⟨rfl,⟨_,rfl⟩⟩
  ·rw [if_neg c2] at h
   have f19 : (y == 19) = false:=by simpa using c2
   by_cases c4 : y = 18
   ·rw [if_pos c4] at h
    have f18 : (y == 18) = true:=by simpa using c4
    by_cases c3 : 0 ≤ j ∧ j < (l0.length : Int)
    rotate_left
    ·rw [if_neg c3] at h;exact absurd h (by simp)
    rw [if_pos c3] at h
    obtain ⟨j2,hj2⟩ : ∃ j2,j2 = rd x.e j:=⟨_,rfl⟩
    rw [← hj2] at h
    by_cases c5 : 0 ≤ j2 ∧ j2 < (l0.length : Int)
    rotate_left
    ·rw [if_neg c5] at h;exact absurd h (by simp)
    rw [if_pos c5] at h
    obtain rfl:=Option.some.inj h
    obtain ⟨hxj,_⟩:=Kd.R_celln (0 : Int) HE.out j c3.1 (by rw [HEL.out];exact c3.2)
    rw [show rdOf (0 : Int) x.e j = j2 from hj2.symm] at hxj
    obtain ⟨hxk,_⟩:=Kd.R_celln (false : Bool) HD.out j2 c5.1 (by have:=Q.out;omega)
    have p5 : 0 ≤ j:=c3.1
    have p6 : j < (l0.length : Int):=c3.2
    have p7 : 0 ≤ j2:=c5.1
    have p8 : j2 < (x.ds.length : Int):=by have:=Q.out;omega
    obtain ⟨dj,hdj⟩ : ∃ dj,dj = rdOf false x.ds j2:=⟨_,rfl⟩
    rw [← hdj] at hxk ⊢
    replace p5:=eq_true p5
    replace p6:=eq_true p6
    replace p7:=eq_true p7
    replace p8:=eq_true p8
    clear h c2 c3 c4 c5 hdj hj2
    go_enter Try.func93,Try.ntmps93
    go_wp2
    go_quiet (fail)
    go_wp2
    go_ret
    exact ⟨rfl,⟨_,rfl⟩⟩
   ·rw [if_neg c4] at h
    have f18 : (y == 18) = false:=by simpa using c4
    obtain rfl:=Option.some.inj h
    clear h c2 c4
    go_enter Try.func93,Try.ntmps93
    go_wp2
    go_ret
    exact ⟨rfl,Drawn0.refl _⟩

/-! ### impl_walk_cut: function 70 (by hand: structs with rows in them are put behind others) -/
def impl_walk_cut.l0 : Nat → List S56 → List Bool → List Int → List S56 → Nat → Option (List S56)
 | 0,_,_,_,_,_ => none
 | k + 1,l,ds,e,out,i => if i < l.length then ((impl_walk_stays.f l ds e i).bind fun b => (if b = true then (if out.length < 1000 ∧ (rd_T56 l i).f2.length < 1000000000 then impl_walk_cut.l0 k l ds e (out ++ [⟨(rd_T56 l i).f0,(rd_T56 l i).f1,(rd_T56 l i).f2⟩]) (i + 1) else none) else impl_walk_cut.l0 k l ds e out (i + 1))) else some out
def impl_walk_cut.f (k : Nat) (l : List S56) (ds : List Bool) (e : List Int) : Option (List S56):=if l.length ≤ 60 then impl_walk_cut.l0 k l ds e [] 0 else none
theorem impl_walk_cut.mono_l : ∀ k,∀ y0 y1 y2 y3 y4,LeO (impl_walk_cut.l0 k y0 y1 y2 y3 y4) (impl_walk_cut.l0 (k + 1) y0 y1 y2 y3 y4)
 | 0 => fun _ _ _ _ _ r h => by simp [impl_walk_cut.l0] at h
 | k + 1 => by
  have ih0:=impl_walk_cut.mono_l k
  intro y0 y1 y2 y3 y4
  unfold impl_walk_cut.l0
  repeat' first
   | (with_reducible exact ih0 _ _ _ _ _)
   | (with_reducible exact LeO.refl _)
   | (with_reducible exact LeO.none _)
   | (with_reducible refine LeO.ite ?_ ?_)
   | (with_reducible refine LeO.bind ?_ (fun _ => ?_))
theorem impl_walk_cut.mono : ∀ a0 a1 a2 k,LeO (impl_walk_cut.f k a0 a1 a2) (impl_walk_cut.f (k + 1) a0 a1 a2):=fun _ _ _ k => LeO.ite (impl_walk_cut.mono_l k _ _ _ _ _) (LeO.refl _)
set_option maxHeartbeats 8000000 in
set_option maxRecDepth 100000 in
theorem impl_walk_cut.calls (k base g : Nat) (A0 : Option Addr) (c0 : Nat) (l0 : List S56) (xr : WRes) (r : List S56) (w : World) (hr0 : Kd.C k56 w A0 l0.length l0) (hc0 : l0.length ≤ c0) (hs : WalkAt w base g l0.length c0 A0 xr) (h : impl_walk_cut.f k l0 xr.ds xr.e = some r) :
  Calls Try.prog 70 #[.pointer (some ⟨g,0,none⟩)] w fun e w' => ∃ v0_ : Value,e = .returned (v0_) ∧ Kd.S k56 56 w' w.heap.size (fun _ => True) v0_ r ∧ Below w.heap.size w w':=by
 have hu56:=Try.underlying56
 have hu63:=Try.underlying63
 have hu84:=Try.underlying84
 unfold impl_walk_cut.f at h
 by_cases cl : l0.length ≤ 60
 rotate_left
 ·rw [if_neg cl] at h;exact absurd h (by simp)
 rw [if_pos cl] at h
 have H':=Aside0.mk h
 have HL:=Aside0.mk cl
 have HR0:=Aside0.mk hr0
 have HC0:=Aside0.mk hc0
 have HS0:=Aside0.mk hs
 obtain ⟨_,gs,vh,vd,vb,hblk,⟨_,⟨ve,vo,vp,hsb,_⟩,_⟩,_⟩:=hs
 have hg0 : w.cell? ⟨g,0,none⟩ = some (.pointer (some ⟨gs,0,none⟩)):=(blk_cell hblk 0).trans rfl
 have hs0 : w.cell? ⟨gs,0,none⟩ = some (.slice A0 l0.length c0):=(blk_cell hsb 0).trans rfl
 have hg0a : (w.alloc (.cells #[] 56)).cell? ⟨g,0,none⟩ = some (.pointer (some ⟨gs,0,none⟩)):=pw_cell_below (below_alloc (Below.refl _ _) _) hg0
 have hs0a : (w.alloc (.cells #[] 56)).cell? ⟨gs,0,none⟩ = some (.slice A0 l0.length c0):=pw_cell_below (below_alloc (Below.refl _ _) _) hs0
 have HO0:=Aside0.mk (S_lit0 k56 56 w)
 have HB0:=Aside0.mk (below_alloc (Below.refl w.heap.size w) (.cells #[] 56))
 clear hr0 hc0 h cl hblk hsb
 go_enter Try.func70,Try.ntmps70
 go_wp2
 clear hg0 hs0 hg0a hs0a
 go_loopg [3,15] k (fun kq v3 v15 w' => ∃ (out : List S56) (v : Value) (i : Nat),v3 = v ∧ v15 = .int .i64 (i : Int) ∧ Aside0 (impl_walk_cut.l0 kq l0 xr.ds xr.e out i = some r) ∧ Aside0 (kq ≤ k) ∧ Aside0 (Kd.S k56 56 w' w.heap.size (fun _ => True) v out) ∧ Aside0 (Below w.heap.size w w'))
 case atStart => exact ⟨[],_,0,rfl,rfl,H',⟨Nat.le_refl _⟩,HO0,HB0⟩
 case round =>
  clear H' HO0 HB0
  obtain ⟨out,v,i,rfl,rfl,HA,HK1,HO,HB⟩:=hrel
  cases gk with
  | zero => exact absurd HA.out (by simp [impl_walk_cut.l0])
  | succ k1 =>
   have H:=HA.out
   clear HA
   simp only [impl_walk_cut.l0] at H
   obtain ⟨Ao,co,eo⟩:=Kd.S_slice HO.out
   subst eo
   by_cases c2 : i < l0.length
   rotate_left
   ·rw [if_neg c2] at H
    obtain rfl:=Option.some.inj H
    have c2b : decide (i < l0.length) = false:=decide_eq_false c2
    clear c2 H
    go_wp2
    go_ret
    exact ⟨_,rfl,HO.out,HB.out⟩
   rw [if_pos c2] at H
   obtain ⟨b,AB,H⟩:=Option.bind_eq_some_iff.mp H
   have AB:=Aside0.mk AB
   obtain ⟨adl,AT,cT,eA,hx0,hx1,hx2,hlT,hiT⟩:=at_T56 HR0.out (i : Int) (by omega) (by omega)
   cases eA
   obtain ⟨x,hx⟩ : ∃ x,x = rd_T56 l0 (i : Int):=⟨_,rfl⟩
   rw [← hx] at hx0 hx1 hx2 hlT hiT H
   have HLT:=Aside0.mk hlT
   have HIT:=Aside0.mk hiT
   have hy0:=pw_cell_below HB.out hx0
   have hy1:=pw_cell_below HB.out hx1
   have hy2:=pw_cell_below HB.out hx2
   have c2b : decide (i < l0.length) = true:=decide_eq_true c2
   have p2 : (0 : Int) ≤ (i : Int):=by omega
   have p3 : (i : Int) < (l0.length : Int):=by omega
   have p4 : (i : Int) ≤ 60:=by have:=HL.out;omega
   rw [Int.toNat_natCast] at hy0 hy1 hy2
   clear hx0 hx1 hx2 hx hlT hiT c2
   cases b with
   | false =>
    rw [if_neg (by decide)] at H
    have H':=Aside0.mk H
    clear H
    go_upto_region 5 with (fail)
    have HB5:=Aside0.mk (below_alloc HB.out (.cells #[.int .i64 x.f0,.int .i64 x.f1,.slice AT x.f2.length cT] 56))
    have HO5:=Aside0.mk (Kd.S_alloc HO.out (.cells #[.int .i64 x.f0,.int .i64 x.f1,.slice AT x.f2.length cT] 56))
    clear hy0 hy1 hy2 HO HB
    have HQ:=Aside0.mk (impl_walk_stays.calls base g _ c0 l0 xr i false _ (Kd.C_below HR0.out HB5.out) (HS0.out.step HB5.out) AB.out)
    go_wp2_with (first | (go_at_call 93;refine HQ.out.mono ?_;rintro e w6 ⟨rfl,⟨nd,rfl⟩⟩))
    go_roundg k1
    case measure => have:=HK1.out;omega
    case rel => exact ⟨_,_,i + 1,rfl,by go_num,H',⟨by have:=HK1.out;omega⟩,⟨Kd.S_drewN HO5.out nd⟩,⟨pw_below_drewN HB5.out nd⟩⟩
   | true =>
    rw [if_pos rfl] at H
    by_cases cn : out.length < 1000 ∧ x.f2.length < 1000000000
    rotate_left
    ·rw [if_neg cn] at H;exact absurd H (by simp)
    rw [if_pos cn] at H
    have H':=Aside0.mk H
    have HN:=Aside0.mk cn.1
    have HCL:=Aside0.mk (show slices_Clone_int_int.f x.f2 = some x.f2 by unfold slices_Clone_int_int.f;rw [if_pos (by omega)])
    clear H cn
    go_upto_region 5 with (fail)
    have HB5:=Aside0.mk (below_alloc HB.out (.cells #[.int .i64 x.f0,.int .i64 x.f1,.slice AT x.f2.length cT] 56))
    have HO5:=Aside0.mk (Kd.S_alloc (Kd.S_bound HO.out) (.cells #[.int .i64 x.f0,.int .i64 x.f1,.slice AT x.f2.length cT] 56))
    have HX5:=Aside0.mk (heap_alloc_new wr (.cells #[.int .i64 x.f0,.int .i64 x.f1,.slice AT x.f2.length cT] 56))
    clear hy0 hy1 hy2
    go_cut [5,22] (fun v5 v22 wd => ∃ gx,v5 = .pointer (some ⟨gx,0,none⟩) ∧ v22 = .bool true ∧ Aside0 (wd.heap[gx]? = some (.cells #[.int .i64 x.f0,.int .i64 x.f1,.slice AT x.f2.length cT] 56 (0,0))) ∧ Aside0 (Kd.S k56 56 wd w.heap.size (fun k_ => k_ < gx) (.slice Ao out.length co) out) ∧ Aside0 (Below w.heap.size w wd))
    case first =>
     have HQ:=Aside0.mk (impl_walk_stays.calls base g _ c0 l0 xr i true _ (Kd.C_below HR0.out HB5.out) (HS0.out.step HB5.out) AB.out)
     go_wp2_with (first | (go_at_call 93;refine HQ.out.mono ?_;rintro e w6 ⟨rfl,⟨nd,rfl⟩⟩))
     go_meet
     exact ⟨wr.heap.size,rfl,rfl,⟨blk_drewN HX5.out nd⟩,⟨Kd.S_mono (Kd.S_drewN HO5.out nd) (fun k_ hk_ => hk_.2.2.1)⟩,⟨pw_below_drewN HB5.out nd⟩⟩
    case rest =>
     obtain ⟨gx,rfl,rfl,HX7,HO7,HB7⟩:=hcut
     clear HB5 HO5 HX5 HO HB
     go_upto_region 6 with (fail)
     have HX8:=Aside0.mk (blk_drew HX7.out)
     have HO8:=Aside0.mk (Kd.S_drew HO7.out)
     have HB8:=Aside0.mk (below_drew HB7.out)
     refine start_ (n:=12) (S:=fun w' => w'.cell? ⟨gx,0,none⟩ = some (.int .i64 x.f0) ∧ w'.cell? ⟨gx,1,none⟩ = some (.int .i64 x.f1) ∧ w'.cell? ⟨gx,2,none⟩ = some (.slice AT x.f2.length cT)) (ds:=[]) #[false,false,false,false,false,false,false,false,false,false,false,false] (by kernel_rfl) rfl rfl ?_ (fun hHeld => ?_)
     ·exact ⟨(blk_cell HX8.out 0).trans rfl,(blk_cell HX8.out 1).trans rfl,(blk_cell HX8.out 2).trans rfl⟩
     refine pure_ (i:=0) (N:=some 23) (v:=?_) (a':=?_) #[true,false,false,false,false,false,false,false,false,false,false,false] rfl rfl (by kernel_rfl) (fun _ _ _ h => h) (Or.inl ⟨by rfl,?_⟩) ?_ ?_
     rotate_left
     ·intro w'
      go_simp
      with_reducible rfl
     rotate_left
     ·simp only [Act.put,List.setIfInBounds_toArray,List.set_cons_zero,List.set_cons_succ,i64_w,i32_w]
      rfl
     refine pure_ (i:=1) (N:=some 24) (v:=?_) (a':=?_) #[true,true,false,false,false,false,false,false,false,false,false,false] rfl rfl (by kernel_rfl) (fun _ _ _ h => h) (Or.inl ⟨by rfl,?_⟩) ?_ ?_
     rotate_left
     ·intro w'
      go_simp
      with_reducible rfl
     rotate_left
     ·simp only [Act.put,List.setIfInBounds_toArray,List.set_cons_zero,List.set_cons_succ,i64_w,i32_w]
      rfl
     refine pure_ (i:=3) (N:=some 26) (v:=?_) (a':=?_) #[true,true,false,true,false,false,false,false,false,false,false,false] rfl rfl (by kernel_rfl) (fun _ _ _ h => h) (Or.inl ⟨by rfl,?_⟩) ?_ ?_
     rotate_left
     ·intro w'
      go_simp
      with_reducible rfl
     rotate_left
     ·simp only [Act.put,List.setIfInBounds_toArray,List.set_cons_zero,List.set_cons_succ,i64_w,i32_w]
      rfl
     refine pure_ (i:=5) (N:=some 28) (v:=?_) (a':=?_) #[true,true,false,true,false,true,false,false,false,false,false,false] rfl rfl (by kernel_rfl) (fun _ _ _ h => h) (Or.inl ⟨by rfl,?_⟩) ?_ ?_
     rotate_left
     ·intro w'
      go_simp
      with_reducible rfl
     rotate_left
     ·simp only [Act.put,List.setIfInBounds_toArray,List.set_cons_zero,List.set_cons_succ,i64_w,i32_w]
      rfl
     refine take_ (i:=2) (N:=some 25) (v:=?_) (a':=?_) #[true,true,true,true,false,true,false,false,false,false,false,false] rfl rfl (by kernel_rfl) (fun _ _ _ h => h) (Or.inl ⟨by rfl,?_⟩) hHeld ?_ ?_
     rotate_left
     ·rintro w' ⟨s0,s1,s2⟩
      go_simp
      with_reducible rfl
     rotate_left
     ·simp only [Act.put,List.setIfInBounds_toArray,List.set_cons_zero,List.set_cons_succ,i64_w,i32_w]
      rfl
     refine take_ (i:=4) (N:=some 27) (v:=?_) (a':=?_) #[true,true,true,true,true,true,false,false,false,false,false,false] rfl rfl (by kernel_rfl) (fun _ _ _ h => h) (Or.inl ⟨by rfl,?_⟩) hHeld ?_ ?_
     rotate_left
     ·rintro w' ⟨s0,s1,s2⟩
      go_simp
      with_reducible rfl
     rotate_left
     ·simp only [Act.put,List.setIfInBounds_toArray,List.set_cons_zero,List.set_cons_succ,i64_w,i32_w]
      rfl
     refine take_ (i:=6) (N:=some 29) (v:=?_) (a':=?_) #[true,true,true,true,true,true,true,false,false,false,false,false] rfl rfl (by kernel_rfl) (fun _ _ _ h => h) (Or.inl ⟨by rfl,?_⟩) hHeld ?_ ?_
     rotate_left
     ·rintro w' ⟨s0,s1,s2⟩
      go_simp
      with_reducible rfl
     rotate_left
     ·simp only [Act.put,List.setIfInBounds_toArray,List.set_cons_zero,List.set_cons_succ,i64_w,i32_w]
      rfl
     refine one_ (i:=7) (N:=some 30) #[true,true,true,true,true,true,true,true,false,false,false,false] rfl rfl (by kernel_rfl) (by decide) (fun K hK => ?_)
     refine goes_ Try.func80 (by kernel_rfl) rfl #[.slice AT x.f2.length cT] (by rfl) rfl rfl (by simp only [List.map_toArray,List.map_cons,List.map_nil];rfl) ?_
     with_reducible refine (slices_Clone_int_int.calls AT cT x.f2 x.f2 _ (Kd.C_below HIT.out HB8.out) HLT.out HCL.out).mono ?_
     rintro e w9 ⟨vy,rfl,hoy,hby⟩
     obtain ⟨Ay,cy,ey⟩:=Kd.R_slice hoy
     subst ey
     refine ⟨_,rfl,?_⟩
     have HX9:=Aside0.mk (show w9.heap[gx]? = some (.cells #[.int .i64 x.f0,.int .i64 x.f1,.slice AT x.f2.length cT] 56 (0,0)) from blk_below HX8.out hby)
     have HY9:=Aside0.mk hoy
     have HO9:=Aside0.mk (Kd.S_below (Kd.S_bound HO8.out) hby)
     have HB9:=Aside0.mk (below_step HB8.out hby)
     clear hoy hby
     refine hK.out _ _ ?_ (fun hHeld => ?_)
     ·exact ⟨(blk_cell HX9.out 0).trans rfl,(blk_cell HX9.out 1).trans rfl,(blk_cell HX9.out 2).trans rfl⟩
     clear hK K
     refine norm_ (a':=?_) ?_ ?_
     rotate_left
     ·show Act.put _ (some 30) _ = _
      simp only [Act.put,List.setIfInBounds_toArray,List.set_cons_zero,List.set_cons_succ,i64_w,i32_w]
      rfl
     refine pure_ (i:=8) (N:=some 31) (v:=?_) (a':=?_) #[true,true,true,true,true,true,true,true,true,false,false,false] rfl rfl (by kernel_rfl) (fun _ _ _ h => h) (Or.inl ⟨by rfl,?_⟩) ?_ ?_
     rotate_left
     ·intro w'
      go_simp
      with_reducible rfl
     rotate_left
     ·simp only [Act.put,List.setIfInBounds_toArray,List.set_cons_zero,List.set_cons_succ,i64_w,i32_w]
      rfl
     refine one_ (i:=9) (N:=some 32) #[true,true,true,true,true,true,true,true,true,true,false,false] rfl rfl (by kernel_rfl) (by decide) (fun K hK => ?_)
     refine value_ (w1:=?_) (v:=?_) (by rfl) rfl ?_ ?_
     rotate_left 2
     ·go_simp
      constructor
      ·rfl
      ·rfl
     refine hK.out _ _ ?_ (fun hHeld => ?_)
     ·exact ⟨pw_cell_below (below_alloc (Below.refl _ _) _) hHeld.1,pw_cell_below (below_alloc (Below.refl _ _) _) hHeld.2.1,pw_cell_below (below_alloc (Below.refl _ _) _) hHeld.2.2⟩
     clear hK K
     refine norm_ (a':=?_) ?_ ?_
     rotate_left
     ·show Act.put _ (some 32) _ = _
      simp only [Act.put,List.setIfInBounds_toArray,List.set_cons_zero,List.set_cons_succ,i64_w,i32_w]
      rfl
     refine one_ (i:=10) (N:=some 33) #[true,true,true,true,true,true,true,true,true,true,true,false] rfl rfl (by kernel_rfl) (by decide) (fun K hK => ?_)
     refine Kd.S_append_step k56 (w0:=w) (W:=w9) w.heap.size (by rfl) (.tmp 23) (.tmp 32) 25 56 (.agg #[.int .i64 0,.int .i64 0,.slice none 0 0]) 40 rfl Try.underlying25 (by kernel_rfl) rfl (by decide) (by omega) (.slice Ao out.length co) out ⟨x.f0,x.f1,x.f2⟩ [.int .i64 x.f0,.int .i64 x.f1,.slice Ay x.f2.length cy] (fun _ => True) (fun k_ => some k_ = (Value.slice Ay x.f2.length cy).ownBlock) rfl rfl ?aP ?aQ ?aF ?aO ?aB ?aS ?aL ?_
     case aP => exact k56_mkM _ _ _ ⟨x.f0,x.f1,x.f2⟩ (Kd.R_lower (Kd.R_tight rfl HY9.out) HB8.out.size)
     case aQ => exact fun k_ hk_ => ⟨trivial,fun he_ => R_types_ne HY9.out (Kd.S_R HO9.out) (by decide) k_ hk_ he_⟩
     case aF => exact fun _ _ => trivial
     case aO => exact Kd.S_mono HO9.out (fun k_ hk_ => ⟨trivial,fun he_ => by have q1:=hk_.2.2.1;have q2:=Kd.R_base HY9.out k_ he_.symm;omega⟩)
     case aB => exact HB9.out
     case aS => exact HB9.out.size
     case aL => have:=HN.out;omega
     intro v33 w11 ho11 hb11 hg11 hat11
     obtain ⟨Av,cv,ev⟩:=Kd.S_slice ho11
     rw [List.length_append,List.length_singleton] at ev
     subst ev
     have HO11:=Aside0.mk ho11
     have HB11:=Aside0.mk hb11
     have HX11:=Aside0.mk (show w11.heap[gx]? = some (.cells #[.int .i64 x.f0,.int .i64 x.f1,.slice AT x.f2.length cT] 56 (0,0)) from blk_grown HX9.out hg11 (fun he_ => by have q2 : gx < gx:=((Kd.S_R HO9.out).1 gx he_.symm).1;omega))
     have HWK:=Aside0.mk hb11
     clear ho11 hb11 hg11 hat11
     refine hK.out _ _ ?_ (fun hHeld => ?_)
     ·exact ⟨(blk_cell HX11.out 0).trans rfl,(blk_cell HX11.out 1).trans rfl,(blk_cell HX11.out 2).trans rfl⟩
     clear hK K
     refine norm_ (a':=?_) ?_ ?_
     rotate_left
     ·show Act.put _ (some 33) _ = _
      simp only [Act.put,List.setIfInBounds_toArray,List.set_cons_zero,List.set_cons_succ,i64_w,i32_w]
      rfl
     refine pure_ (i:=11) (N:=some 3) (v:=?_) (a':=?_) #[true,true,true,true,true,true,true,true,true,true,true,true] rfl rfl (by kernel_rfl) (fun _ _ _ h => h) (Or.inl ⟨by rfl,?_⟩) ?_ ?_
     rotate_left
     ·intro w'
      go_simp
      with_reducible rfl
     rotate_left
     ·simp only [Act.put,List.setIfInBounds_toArray,List.set_cons_zero,List.set_cons_succ,i64_w,i32_w]
      rfl
     refine done_ (by kernel_rfl) ?_
     go_wp2
     go_roundg k1
     case measure => have:=HK1.out;omega
     case rel => exact ⟨_,_,i + 1,rfl,by go_num,H',⟨by have:=HK1.out;omega⟩,HO11,HB11⟩

/-! ### impl_CutDead: function 46 (by hand: a pointer that came back is handed to a method) -/
def impl_CutDead.f (k : Nat) (l : List S56) : Option (List S56 × Bool):=(impl_validOf.f k l).bind fun r => (match r with
 | none => some ([],false)
 | some x => (impl_walk_cut.f k l x.ds x.e).bind fun t => some (t,true))
theorem impl_CutDead.mono : ∀ a0 k,LeO (impl_CutDead.f k a0) (impl_CutDead.f (k + 1) a0):=fun _ k => LeO.bind (impl_validOf.mono _ _) (fun r => by
 match r with
 | none => exact LeO.refl _
 | some x => exact LeO.bind (impl_walk_cut.mono _ _ _ _) (fun _ => LeO.refl _))
set_option maxHeartbeats 8000000 in
set_option maxRecDepth 100000 in
theorem impl_CutDead.calls (k : Nat) (A0 : Option Addr) (c0 : Nat) (l0 : List S56) (r1 : List S56) (r2 : Bool) (w : World) (hr0 : Kd.C k56 w A0 l0.length l0) (hc0 : l0.length ≤ c0) (h : impl_CutDead.f k l0 = some (r1,r2)) :
  Calls Try.prog 46 #[.slice A0 l0.length c0] w fun e w' => ∃ v0_ : Value,e = .returned (.tuple #[v0_,.bool r2]) ∧ Kd.S k56 56 w' w.heap.size (fun _ => True) v0_ r1 ∧ Below w.heap.size w w':=by
 have HR0:=Aside0.mk hr0
 have HC0:=Aside0.mk hc0
 clear hr0 hc0
 unfold impl_CutDead.f at h
 obtain ⟨s,A1,H⟩:=Option.bind_eq_some_iff.mp h
 have A1:=Aside0.mk A1
 clear h
 cases s with
 | none =>
  simp only [Option.some.injEq,Prod.mk.injEq] at H
  obtain ⟨rfl,rfl⟩:=H
  go_enter Try.func46,Try.ntmps46
  go_wp2_with (first | (go_at_call 67;refine (impl_validOf.calls k _ _ l0 none _ HR0.out HC0.out A1.out).mono ?_;rintro e w2 ⟨v,rfl,hv,hb⟩;have HB2:=Aside0.mk hb;obtain rfl : v = .pointer none:=hv;clear hb))
  go_ret2
  exact ⟨_,rfl,Kd.S_nil _ _ _ _ _,HB2.out⟩
 | some x =>
  dsimp only at H
  obtain ⟨t,A2,H⟩:=Option.bind_eq_some_iff.mp H
  have A2:=Aside0.mk A2
  simp only [Option.some.injEq,Prod.mk.injEq] at H
  obtain ⟨rfl,rfl⟩:=H
  go_enter Try.func46,Try.ntmps46
  go_wp2_with (first | (go_at_call 67;refine (impl_validOf.calls k _ _ l0 (some x) _ HR0.out HC0.out A1.out).mono ?_;rintro e w2 ⟨v,rfl,hv,hb⟩;have HB2:=Aside0.mk hb;obtain ⟨g,rfl,hs⟩ : ∃ g,v = .pointer (some ⟨g,0,none⟩) ∧ WalkAt w2 w.heap.size g l0.length c0 A0 x:=hv;have HS:=Aside0.mk hs;clear hb hs) | (go_at_call 70;refine (impl_walk_cut.calls k w.heap.size g A0 c0 l0 x t _ (Kd.C_below HR0.out HB2.out) HC0.out HS.out A2.out).mono ?_;rintro e w3 ⟨v3,rfl,ho3,hb3⟩;obtain ⟨A3,c3,e3⟩:=Kd.S_slice ho3;subst e3;have HO3:=Aside0.mk ho3;have HB3:=Aside0.mk hb3;clear ho3 hb3))
  go_ret2
  exact ⟨_,rfl,Kd.S_lower HO3.out HB2.out.size,below_step HB2.out HB3.out⟩

-- WRITTEN BY lawgen.py
/-! ### laws_FnExactCutDead: function 13 (by lawgen.py: rows in rows are marked) -/
def laws_FnExactCutDead.f (k : Nat) (l0 : List (S55)) : Option Bool:=(laws_szStepS.f k l0 1048576).bind fun t2 => (if t2 < 0 then (some true) else ((laws_toStepS.f k l0).bind fun t7 => ((spec_CutDead.f k t7).bind fun bt16 => ((laws_toStepS.f k l0).bind fun t26 => ((impl_CutDead.f k t26).bind fun bt35 => ((laws_eqStepS.f k bt35.1 bt16.1).bind fun t45 => (if t45 = true then (if bt35.2 = bt16.2 then ((laws_toStepS.f k l0).bind fun t50 => ((laws_eqStepS.f k t26 t50).bind fun t59 => (if t59 = true then ((laws_markStepS.f k t26 1).bind fun bt64 => (if bt64.1 < 0 then (none) else ((laws_eqStepS.f k bt35.1 bt16.1).bind fun t71 => (if t71 = true then (if bt35.2 = bt16.2 then ((laws_markStepS.f k bt35.1 1).bind fun bt76 => ((laws_heldStepS.f k bt76.2 1).bind fun t83 => (if t83 < 0 then (none) else (if t83 = bt76.1 then ((laws_toStepS.f k l0).bind fun t88 => ((impl_CutDead.f k t88).bind fun bt97 => ((laws_eqStepS.f k bt97.1 bt16.1).bind fun t107 => (if t107 = true then (if bt97.2 = bt16.2 then ((laws_heldStepS.f k bt76.2 1).bind fun t112 => (if t112 < 0 then (none) else (if t112 = bt76.1 then (some true) else none))) else none) else none)))) else none)))) else none) else none)))) else none))) else none) else none)))))))
theorem laws_FnExactCutDead.mono : ∀ a0 k,LeO (laws_FnExactCutDead.f k a0) (laws_FnExactCutDead.f (k + 1) a0):=by
 intro a0 k
 unfold laws_FnExactCutDead.f
 repeat' first
   | (with_reducible exact laws_szStepS.mono _ _ _)
   | (with_reducible exact laws_toStepS.mono _ _)
   | (with_reducible exact spec_CutDead.mono _ _)
   | (with_reducible exact impl_CutDead.mono _ _)
   | (with_reducible exact laws_eqStepS.mono _ _ _)
   | (with_reducible exact laws_markStepS.mono _ _ _)
   | (with_reducible exact laws_heldStepS.mono _ _ _)
   | (with_reducible exact LeO.refl _)
   | (with_reducible exact LeO.none _)
   | (with_reducible refine LeO.ite ?_ ?_)
   | (with_reducible refine LeO.bind ?_ (fun _ => ?_))
set_option maxHeartbeats 8000000 in
set_option maxRecDepth 100000 in
theorem laws_FnExactCutDead.calls (k : Nat) (A0 : Option Addr) (c0 : Nat) (l0 : List (S55)) (r : Bool) (w : World) (hr0 : Kd.C k55 w A0 l0.length l0) (hc0 : l0.length ≤ c0) (h : laws_FnExactCutDead.f k l0 = some r) :
  Calls Try.prog 13 #[.slice A0 l0.length c0] w fun e w' => e = .returned (.bool r) ∧ Below w.heap.size w w':=by
 have HR0:=Aside0.mk hr0
 have HC0:=Aside0.mk hc0
 clear hr0 hc0
 have tok4 : Aside0 True:=⟨trivial⟩
 have tok9 : Aside0 True:=⟨trivial⟩
 have tok19 : Aside0 True:=⟨trivial⟩
 have tok28 : Aside0 True:=⟨trivial⟩
 have tok38 : Aside0 True:=⟨trivial⟩
 have tok47 : Aside0 True:=⟨trivial⟩
 have tok52 : Aside0 True:=⟨trivial⟩
 have tok61 : Aside0 True:=⟨trivial⟩
 have tok67 : Aside0 True:=⟨trivial⟩
 have tok73 : Aside0 True:=⟨trivial⟩
 have tok79 : Aside0 True:=⟨trivial⟩
 have tok85 : Aside0 True:=⟨trivial⟩
 have tok90 : Aside0 True:=⟨trivial⟩
 have tok100 : Aside0 True:=⟨trivial⟩
 have tok109 : Aside0 True:=⟨trivial⟩
 have tok114 : Aside0 True:=⟨trivial⟩
 have HB:=Aside0.mk (Below.refl w.heap.size w)
 unfold laws_FnExactCutDead.f at h
 have bq_ : ∀ b_ : Bool,(b_ != b_) = false:=by decide
 replace h:=Option.bind_eq_some_iff.mp h
 obtain ⟨t2,A10,h⟩:=h
 (try dsimp only at h)
 have A1:=Aside0.mk A10
 clear A10
 by_cases c1 : t2 < 0
 ·rw [if_pos c1] at h
  obtain rfl:=Option.some.inj h
  have c1b : decide (t2 < 0) = true:=decide_eq_true c1
  clear c1
  go_enter Try.func13,Try.ntmps13
  go_wp2_with (first | (go_at_call 14;have u_:=tok4;clear u_;((with_reducible refine (laws_szStepS.calls k _ _ l0 1048576 t2 _ (Kd.C_below HR0.out HB.out) HC0.out A1.out).mono ?_));rintro e w3 ⟨rfl,hb⟩;have nb_:=Aside0.mk (below_step HB.out hb);clear HB;have HB:=nb_;clear nb_;have Z5:=Aside0.mk hb.size;clear hb tok4))
  go_ret
  exact ⟨rfl,HB.out⟩
 rw [if_neg c1] at h
 have c1b : decide (t2 < 0) = false:=decide_eq_false c1
 clear c1
 replace h:=Option.bind_eq_some_iff.mp h
 obtain ⟨t7,A60,h⟩:=h
 (try dsimp only at h)
 have A6:=Aside0.mk A60
 clear A60
 replace h:=Option.bind_eq_some_iff.mp h
 obtain ⟨⟨t16,t17⟩,A150,h⟩:=h
 (try dsimp only at h)
 have A15:=Aside0.mk A150
 clear A150
 replace h:=Option.bind_eq_some_iff.mp h
 obtain ⟨t26,A250,h⟩:=h
 (try dsimp only at h)
 have A25:=Aside0.mk A250
 clear A250
 replace h:=Option.bind_eq_some_iff.mp h
 obtain ⟨⟨t35,t36⟩,A340,h⟩:=h
 (try dsimp only at h)
 have A34:=Aside0.mk A340
 clear A340
 replace h:=Option.bind_eq_some_iff.mp h
 obtain ⟨t45,A440,h⟩:=h
 (try dsimp only at h)
 have A44:=Aside0.mk A440
 clear A440
 cases t45 with
 | false => exact absurd h (by simp)
 | true =>
  rw [if_pos rfl] at h
  by_cases c2 : t36 = t17
  rotate_left
  ·rw [if_neg c2] at h;exact absurd h (by simp)
  rw [if_pos c2] at h
  have c2b : (t36 != t17) = false:=by rw [c2];simp
  have c2d : (t36 == t17) = true:=by rw [c2];simp
  have C2:=Aside0.mk c2
  clear c2
  replace h:=Option.bind_eq_some_iff.mp h
  obtain ⟨t50,A490,h⟩:=h
  (try dsimp only at h)
  have A49:=Aside0.mk A490
  clear A490
  replace h:=Option.bind_eq_some_iff.mp h
  obtain ⟨t59,A580,h⟩:=h
  (try dsimp only at h)
  have A58:=Aside0.mk A580
  clear A580
  cases t59 with
  | false => exact absurd h (by simp)
  | true =>
   rw [if_pos rfl] at h
   replace h:=Option.bind_eq_some_iff.mp h
   obtain ⟨⟨t64,t65⟩,A630,h⟩:=h
   (try dsimp only at h)
   have A63:=Aside0.mk A630
   clear A630
   by_cases c3 : t64 < 0
   ·rw [if_pos c3] at h;exact absurd h (by simp)
   rw [if_neg c3] at h
   have c3b : decide (t64 < 0) = false:=decide_eq_false c3
   clear c3
   replace h:=Option.bind_eq_some_iff.mp h
   obtain ⟨t71,A700,h⟩:=h
   (try dsimp only at h)
   have A70:=Aside0.mk A700
   clear A700
   cases t71 with
   | false => exact absurd h (by simp)
   | true =>
    rw [if_pos rfl] at h
    by_cases c4 : t36 = t17
    rotate_left
    ·rw [if_neg c4] at h;exact absurd h (by simp)
    rw [if_pos c4] at h
    have c4b : (t36 != t17) = false:=by rw [c4];simp
    have c4d : (t36 == t17) = true:=by rw [c4];simp
    have C4:=Aside0.mk c4
    clear c4
    replace h:=Option.bind_eq_some_iff.mp h
    obtain ⟨⟨t76,t77⟩,A750,h⟩:=h
    (try dsimp only at h)
    have A75:=Aside0.mk A750
    clear A750
    replace h:=Option.bind_eq_some_iff.mp h
    obtain ⟨t83,A820,h⟩:=h
    (try dsimp only at h)
    have A82:=Aside0.mk A820
    clear A820
    by_cases c5 : t83 < 0
    ·rw [if_pos c5] at h;exact absurd h (by simp)
    rw [if_neg c5] at h
    have c5b : decide (t83 < 0) = false:=decide_eq_false c5
    clear c5
    by_cases c6 : t83 = t76
    rotate_left
    ·rw [if_neg c6] at h;exact absurd h (by simp)
    rw [if_pos c6] at h
    have c6b : (t83 != t76) = false:=by rw [c6];simp
    have c6d : (t83 == t76) = true:=by rw [c6];simp
    have C6:=Aside0.mk c6
    clear c6
    replace h:=Option.bind_eq_some_iff.mp h
    obtain ⟨t88,A870,h⟩:=h
    (try dsimp only at h)
    have A87:=Aside0.mk A870
    clear A870
    replace h:=Option.bind_eq_some_iff.mp h
    obtain ⟨⟨t97,t98⟩,A960,h⟩:=h
    (try dsimp only at h)
    have A96:=Aside0.mk A960
    clear A960
    replace h:=Option.bind_eq_some_iff.mp h
    obtain ⟨t107,A1060,h⟩:=h
    (try dsimp only at h)
    have A106:=Aside0.mk A1060
    clear A1060
    cases t107 with
    | false => exact absurd h (by simp)
    | true =>
     rw [if_pos rfl] at h
     by_cases c7 : t98 = t17
     rotate_left
     ·rw [if_neg c7] at h;exact absurd h (by simp)
     rw [if_pos c7] at h
     have c7b : (t98 != t17) = false:=by rw [c7];simp
     have c7d : (t98 == t17) = true:=by rw [c7];simp
     have C7:=Aside0.mk c7
     clear c7
     replace h:=Option.bind_eq_some_iff.mp h
     obtain ⟨t112,A1110,h⟩:=h
     (try dsimp only at h)
     have A111:=Aside0.mk A1110
     clear A1110
     by_cases c8 : t112 < 0
     ·rw [if_pos c8] at h;exact absurd h (by simp)
     rw [if_neg c8] at h
     have c8b : decide (t112 < 0) = false:=decide_eq_false c8
     clear c8
     by_cases c9 : t112 = t76
     rotate_left
     ·rw [if_neg c9] at h;exact absurd h (by simp)
     rw [if_pos c9] at h
     have c9b : (t112 != t76) = false:=by rw [c9];simp
     have c9d : (t112 == t76) = true:=by rw [c9];simp
     have C9:=Aside0.mk c9
     clear c9
     obtain rfl:=Option.some.inj h
     go_enter Try.func13,Try.ntmps13
     go_wp2_with (first | (go_at_call 14;have u_:=tok4;clear u_;((with_reducible refine (laws_szStepS.calls k _ _ l0 1048576 t2 _ (Kd.C_below HR0.out HB.out) HC0.out A1.out).mono ?_));rintro e w3 ⟨rfl,hb⟩;have nb_:=Aside0.mk (below_step HB.out hb);clear HB;have HB:=nb_;clear nb_;have Z5:=Aside0.mk hb.size;clear hb tok4) | (go_at_call 16;have u_:=tok9;clear u_;((with_reducible refine (laws_toStepS.calls k _ _ l0 t7 _ (Kd.C_below HR0.out HB.out) HC0.out A6.out).mono ?_));rintro e w8 ⟨v10,rfl,ho0,hb⟩;have nF11_:=Aside0.mk (OwnS.make HB.out hb ho0);have nb_:=Aside0.mk (below_step HB.out hb);clear HB;have HB:=nb_;clear nb_;have Z12:=Aside0.mk hb.size;have F11:=nF11_;clear nF11_;obtain ⟨Ao14,co14,eo14⟩:=Kd.S_slice F11.out;subst eo14;clear hb tok9 ho0) | (go_at_call 45;have u_:=tok19;clear u_;((with_reducible refine (spec_CutDead.calls k _ _ t7 t16 t17 _ (Kd.S_reads' F11.out).2.2 (S_cap F11.out) A15.out).mono ?_));rintro e w18 ⟨v20,rfl,ho0,hb⟩;have nF21_:=Aside0.mk (OwnS.make HB.out hb ho0);have n0_:=Aside0.mk (OwnS.below F11.out hb);have nb_:=Aside0.mk (below_step HB.out hb);clear F11 HB;have F11:=n0_;have HB:=nb_;clear n0_ nb_;have Z22:=Aside0.mk hb.size;have F21:=nF21_;clear nF21_;obtain ⟨Ao24,co24,eo24⟩:=Kd.S_slice F21.out;subst eo24;clear hb tok19 ho0) | (go_at_call 16;have u_:=tok28;clear u_;((with_reducible refine (laws_toStepS.calls k _ _ l0 t26 _ (Kd.C_below HR0.out HB.out) HC0.out A25.out).mono ?_));rintro e w27 ⟨v29,rfl,ho0,hb⟩;have nF30_:=Aside0.mk (OwnS.make HB.out hb ho0);have n0_:=Aside0.mk (OwnS.below F11.out hb);have n1_:=Aside0.mk (OwnS.below F21.out hb);have nb_:=Aside0.mk (below_step HB.out hb);clear F11 F21 HB;have F11:=n0_;have F21:=n1_;have HB:=nb_;clear n0_ n1_ nb_;have Z31:=Aside0.mk hb.size;have F30:=nF30_;clear nF30_;obtain ⟨Ao33,co33,eo33⟩:=Kd.S_slice F30.out;subst eo33;clear hb tok28 ho0) | (go_at_call 46;have u_:=tok38;clear u_;((with_reducible refine (impl_CutDead.calls k _ _ t26 t35 t36 _ (Kd.S_reads' F30.out).2.2 (S_cap F30.out) A34.out).mono ?_));rintro e w37 ⟨v39,rfl,ho0,hb⟩;have nF40_:=Aside0.mk (OwnS.make HB.out hb ho0);have n0_:=Aside0.mk (OwnS.below F11.out hb);have n1_:=Aside0.mk (OwnS.below F21.out hb);have n2_:=Aside0.mk (OwnS.below F30.out hb);have nb_:=Aside0.mk (below_step HB.out hb);clear F11 F21 F30 HB;have F11:=n0_;have F21:=n1_;have F30:=n2_;have HB:=nb_;clear n0_ n1_ n2_ nb_;have Z41:=Aside0.mk hb.size;have F40:=nF40_;clear nF40_;obtain ⟨Ao43,co43,eo43⟩:=Kd.S_slice F40.out;subst eo43;clear hb tok38 ho0) | (go_at_call 18;have u_:=tok47;clear u_;((with_reducible refine (laws_eqStepS.calls k _ _ t35 _ _ t16 true _ (Kd.S_reads' F40.out).2.2 (S_cap F40.out) (Kd.S_reads' F21.out).2.2 (S_cap F21.out) A44.out).mono ?_));rintro e w46 ⟨rfl,hb⟩;have n0_:=Aside0.mk (OwnS.below F11.out hb);have n1_:=Aside0.mk (OwnS.below F21.out hb);have n2_:=Aside0.mk (OwnS.below F30.out hb);have n3_:=Aside0.mk (OwnS.below F40.out hb);have nb_:=Aside0.mk (below_step HB.out hb);clear F11 F21 F30 F40 HB;have F11:=n0_;have F21:=n1_;have F30:=n2_;have F40:=n3_;have HB:=nb_;clear n0_ n1_ n2_ n3_ nb_;have Z48:=Aside0.mk hb.size;clear hb tok47) | (go_at_call 16;have u_:=tok52;clear u_;((with_reducible refine (laws_toStepS.calls k _ _ l0 t50 _ (Kd.C_below HR0.out HB.out) HC0.out A49.out).mono ?_));rintro e w51 ⟨v53,rfl,ho0,hb⟩;have nF54_:=Aside0.mk (OwnS.make HB.out hb ho0);have n0_:=Aside0.mk (OwnS.below F11.out hb);have n1_:=Aside0.mk (OwnS.below F21.out hb);have n2_:=Aside0.mk (OwnS.below F30.out hb);have n3_:=Aside0.mk (OwnS.below F40.out hb);have nb_:=Aside0.mk (below_step HB.out hb);clear F11 F21 F30 F40 HB;have F11:=n0_;have F21:=n1_;have F30:=n2_;have F40:=n3_;have HB:=nb_;clear n0_ n1_ n2_ n3_ nb_;have Z55:=Aside0.mk hb.size;have F54:=nF54_;clear nF54_;obtain ⟨Ao57,co57,eo57⟩:=Kd.S_slice F54.out;subst eo57;clear hb tok52 ho0) | (go_at_call 18;have u_:=tok61;clear u_;((with_reducible refine (laws_eqStepS.calls k _ _ t26 _ _ t50 true _ (Kd.S_reads' F30.out).2.2 (S_cap F30.out) (Kd.S_reads' F54.out).2.2 (S_cap F54.out) A58.out).mono ?_));rintro e w60 ⟨rfl,hb⟩;have n0_:=Aside0.mk (OwnS.below F11.out hb);have n1_:=Aside0.mk (OwnS.below F21.out hb);have n2_:=Aside0.mk (OwnS.below F30.out hb);have n3_:=Aside0.mk (OwnS.below F40.out hb);have n4_:=Aside0.mk (OwnS.below F54.out hb);have nb_:=Aside0.mk (below_step HB.out hb);clear F11 F21 F30 F40 F54 HB;have F11:=n0_;have F21:=n1_;have F30:=n2_;have F40:=n3_;have F54:=n4_;have HB:=nb_;clear n0_ n1_ n2_ n3_ n4_ nb_;have Z62:=Aside0.mk hb.size;clear hb tok61) | (go_at_call 22;have u_:=tok67;clear u_;((with_reducible refine (laws_markStepS.calls k (fun k_ => w18.heap.size ≤ k_ ∧ k_ < w27.heap.size) (.slice Ao33 t26.length co33) t26 1 t64 t65 w _ HB.out F30.out A63.out).mono ?_));rintro e w66 ⟨rfl,hy,hb,hkp⟩;have Z68:=Aside0.mk hkp.1;have ny_ : Aside0 (OwnS k56 56 w w66 w18.heap.size w27.heap.size (.slice Ao33 t26.length co33) t65):=⟨hy⟩;have n0_:=Aside0.mk (OwnS.kept F11.out hkp (by have:=Z5.out;have:=Z12.out;have:=Z22.out;have:=Z31.out;have:=Z41.out;have:=Z48.out;have:=Z55.out;have:=Z62.out;omega));have n1_:=Aside0.mk (OwnS.kept F21.out hkp (by have:=Z5.out;have:=Z12.out;have:=Z22.out;have:=Z31.out;have:=Z41.out;have:=Z48.out;have:=Z55.out;have:=Z62.out;omega));have n3_:=Aside0.mk (OwnS.kept F40.out hkp (by have:=Z5.out;have:=Z12.out;have:=Z22.out;have:=Z31.out;have:=Z41.out;have:=Z48.out;have:=Z55.out;have:=Z62.out;omega));have n4_:=Aside0.mk (OwnS.kept F54.out hkp (by have:=Z5.out;have:=Z12.out;have:=Z22.out;have:=Z31.out;have:=Z41.out;have:=Z48.out;have:=Z55.out;have:=Z62.out;omega));have nb_:=Aside0.mk (hb);clear F11 F21 F40 F54 HB;have F11:=n0_;have F21:=n1_;have F40:=n3_;have F54:=n4_;have HB:=nb_;clear n0_ n1_ n3_ n4_ nb_;have F69:=ny_;clear ny_ hy hb hkp F30;clear tok67) | (go_at_call 18;have u_:=tok73;clear u_;((with_reducible refine (laws_eqStepS.calls k _ _ t35 _ _ t16 true _ (Kd.S_reads' F40.out).2.2 (S_cap F40.out) (Kd.S_reads' F21.out).2.2 (S_cap F21.out) A70.out).mono ?_));rintro e w72 ⟨rfl,hb⟩;have n0_:=Aside0.mk (OwnS.below F11.out hb);have n1_:=Aside0.mk (OwnS.below F21.out hb);have n2_:=Aside0.mk (OwnS.below F69.out hb);have n3_:=Aside0.mk (OwnS.below F40.out hb);have n4_:=Aside0.mk (OwnS.below F54.out hb);have nb_:=Aside0.mk (below_step HB.out hb);clear F11 F21 F69 F40 F54 HB;have F11:=n0_;have F21:=n1_;have F69:=n2_;have F40:=n3_;have F54:=n4_;have HB:=nb_;clear n0_ n1_ n2_ n3_ n4_ nb_;have Z74:=Aside0.mk hb.size;clear hb tok73) | (go_at_call 22;have u_:=tok79;clear u_;((with_reducible refine (laws_markStepS.calls k (fun k_ => w27.heap.size ≤ k_ ∧ k_ < w37.heap.size) (.slice Ao43 t35.length co43) t35 1 t76 t77 w _ HB.out F40.out A75.out).mono ?_));rintro e w78 ⟨rfl,hy,hb,hkp⟩;have Z80:=Aside0.mk hkp.1;have ny_ : Aside0 (OwnS k56 56 w w78 w27.heap.size w37.heap.size (.slice Ao43 t35.length co43) t77):=⟨hy⟩;have n0_:=Aside0.mk (OwnS.kept F11.out hkp (by have:=Z5.out;have:=Z12.out;have:=Z22.out;have:=Z31.out;have:=Z41.out;have:=Z48.out;have:=Z55.out;have:=Z62.out;have:=Z68.out;have:=Z74.out;omega));have n1_:=Aside0.mk (OwnS.kept F21.out hkp (by have:=Z5.out;have:=Z12.out;have:=Z22.out;have:=Z31.out;have:=Z41.out;have:=Z48.out;have:=Z55.out;have:=Z62.out;have:=Z68.out;have:=Z74.out;omega));have n2_:=Aside0.mk (OwnS.kept F69.out hkp (by have:=Z5.out;have:=Z12.out;have:=Z22.out;have:=Z31.out;have:=Z41.out;have:=Z48.out;have:=Z55.out;have:=Z62.out;have:=Z68.out;have:=Z74.out;omega));have n4_:=Aside0.mk (OwnS.kept F54.out hkp (by have:=Z5.out;have:=Z12.out;have:=Z22.out;have:=Z31.out;have:=Z41.out;have:=Z48.out;have:=Z55.out;have:=Z62.out;have:=Z68.out;have:=Z74.out;omega));have nb_:=Aside0.mk (hb);clear F11 F21 F69 F54 HB;have F11:=n0_;have F21:=n1_;have F69:=n2_;have F54:=n4_;have HB:=nb_;clear n0_ n1_ n2_ n4_ nb_;have F81:=ny_;clear ny_ hy hb hkp F40;clear tok79) | (go_at_call 33;have u_:=tok85;clear u_;refine calls_of_args (args':=#[.slice Ao43 t77.length co43,.int .i64 1]) (by first | (rw [show t77.length = t35.length from (Kd.S_reads' F81.out).1.symm];done) | (rw [show t77.length = t35.length from (Kd.S_reads' F81.out).1.symm];rfl)) ?_;((with_reducible refine (laws_heldStepS.calls k _ _ t77 1 t83 _ (Kd.S_reads' F81.out).2.2 (S_cap F81.out) A82.out).mono ?_));rintro e w84 ⟨rfl,hd⟩;have hb:=hd.below;clear hd;have n0_:=Aside0.mk (OwnS.below F11.out hb);have n1_:=Aside0.mk (OwnS.below F21.out hb);have n2_:=Aside0.mk (OwnS.below F69.out hb);have n3_:=Aside0.mk (OwnS.below F81.out hb);have n4_:=Aside0.mk (OwnS.below F54.out hb);have nb_:=Aside0.mk (below_step HB.out hb);clear F11 F21 F69 F81 F54 HB;have F11:=n0_;have F21:=n1_;have F69:=n2_;have F81:=n3_;have F54:=n4_;have HB:=nb_;clear n0_ n1_ n2_ n3_ n4_ nb_;have Z86:=Aside0.mk hb.size;clear hb tok85) | (go_at_call 16;have u_:=tok90;clear u_;((with_reducible refine (laws_toStepS.calls k _ _ l0 t88 _ (Kd.C_below HR0.out HB.out) HC0.out A87.out).mono ?_));rintro e w89 ⟨v91,rfl,ho0,hb⟩;have nF92_:=Aside0.mk (OwnS.make HB.out hb ho0);have n0_:=Aside0.mk (OwnS.below F11.out hb);have n1_:=Aside0.mk (OwnS.below F21.out hb);have n2_:=Aside0.mk (OwnS.below F69.out hb);have n3_:=Aside0.mk (OwnS.below F81.out hb);have n4_:=Aside0.mk (OwnS.below F54.out hb);have nb_:=Aside0.mk (below_step HB.out hb);clear F11 F21 F69 F81 F54 HB;have F11:=n0_;have F21:=n1_;have F69:=n2_;have F81:=n3_;have F54:=n4_;have HB:=nb_;clear n0_ n1_ n2_ n3_ n4_ nb_;have Z93:=Aside0.mk hb.size;have F92:=nF92_;clear nF92_;obtain ⟨Ao95,co95,eo95⟩:=Kd.S_slice F92.out;subst eo95;clear hb tok90 ho0) | (go_at_call 46;have u_:=tok100;clear u_;((with_reducible refine (impl_CutDead.calls k _ _ t88 t97 t98 _ (Kd.S_reads' F92.out).2.2 (S_cap F92.out) A96.out).mono ?_));rintro e w99 ⟨v101,rfl,ho0,hb⟩;have nF102_:=Aside0.mk (OwnS.make HB.out hb ho0);have n0_:=Aside0.mk (OwnS.below F11.out hb);have n1_:=Aside0.mk (OwnS.below F21.out hb);have n2_:=Aside0.mk (OwnS.below F69.out hb);have n3_:=Aside0.mk (OwnS.below F81.out hb);have n4_:=Aside0.mk (OwnS.below F54.out hb);have n5_:=Aside0.mk (OwnS.below F92.out hb);have nb_:=Aside0.mk (below_step HB.out hb);clear F11 F21 F69 F81 F54 F92 HB;have F11:=n0_;have F21:=n1_;have F69:=n2_;have F81:=n3_;have F54:=n4_;have F92:=n5_;have HB:=nb_;clear n0_ n1_ n2_ n3_ n4_ n5_ nb_;have Z103:=Aside0.mk hb.size;have F102:=nF102_;clear nF102_;obtain ⟨Ao105,co105,eo105⟩:=Kd.S_slice F102.out;subst eo105;clear hb tok100 ho0) | (go_at_call 18;have u_:=tok109;clear u_;((with_reducible refine (laws_eqStepS.calls k _ _ t97 _ _ t16 true _ (Kd.S_reads' F102.out).2.2 (S_cap F102.out) (Kd.S_reads' F21.out).2.2 (S_cap F21.out) A106.out).mono ?_));rintro e w108 ⟨rfl,hb⟩;have n0_:=Aside0.mk (OwnS.below F11.out hb);have n1_:=Aside0.mk (OwnS.below F21.out hb);have n2_:=Aside0.mk (OwnS.below F69.out hb);have n3_:=Aside0.mk (OwnS.below F81.out hb);have n4_:=Aside0.mk (OwnS.below F54.out hb);have n5_:=Aside0.mk (OwnS.below F92.out hb);have n6_:=Aside0.mk (OwnS.below F102.out hb);have nb_:=Aside0.mk (below_step HB.out hb);clear F11 F21 F69 F81 F54 F92 F102 HB;have F11:=n0_;have F21:=n1_;have F69:=n2_;have F81:=n3_;have F54:=n4_;have F92:=n5_;have F102:=n6_;have HB:=nb_;clear n0_ n1_ n2_ n3_ n4_ n5_ n6_ nb_;have Z110:=Aside0.mk hb.size;clear hb tok109) | (go_at_call 33;have u_:=tok114;clear u_;refine calls_of_args (args':=#[.slice Ao43 t77.length co43,.int .i64 1]) (by first | (rw [show t77.length = t35.length from (Kd.S_reads' F81.out).1.symm];done) | (rw [show t77.length = t35.length from (Kd.S_reads' F81.out).1.symm];rfl)) ?_;((with_reducible refine (laws_heldStepS.calls k _ _ t77 1 t112 _ (Kd.S_reads' F81.out).2.2 (S_cap F81.out) A111.out).mono ?_));rintro e w113 ⟨rfl,hd⟩;have hb:=hd.below;clear hd;have n0_:=Aside0.mk (OwnS.below F11.out hb);have n1_:=Aside0.mk (OwnS.below F21.out hb);have n2_:=Aside0.mk (OwnS.below F69.out hb);have n3_:=Aside0.mk (OwnS.below F81.out hb);have n4_:=Aside0.mk (OwnS.below F54.out hb);have n5_:=Aside0.mk (OwnS.below F92.out hb);have n6_:=Aside0.mk (OwnS.below F102.out hb);have nb_:=Aside0.mk (below_step HB.out hb);clear F11 F21 F69 F81 F54 F92 F102 HB;have F11:=n0_;have F21:=n1_;have F69:=n2_;have F81:=n3_;have F54:=n4_;have F92:=n5_;have F102:=n6_;have HB:=nb_;clear n0_ n1_ n2_ n3_ n4_ n5_ n6_ nb_;have Z115:=Aside0.mk hb.size;clear hb tok114))
     go_ret
     exact ⟨rfl,HB.out⟩

/-- THE ONE PURE STATEMENT of laws_FnExactCutDead: yours. -/
def laws_FnExactCutDead.Pure : Prop:=∀ (l0 : List (S55)),l0.length ≤ maxLen → (∀ x ∈ l0,Good55 x) → ∃ k,laws_FnExactCutDead.f k l0 = some true

end Go.Proofs.Ytmljikgegclolaa.Q
