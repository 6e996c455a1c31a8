-- WRITTEN BY A PROGRAM OF THIS SESSION
import Derived.Test.YtbmnoenbhlfjaaaQ0
import Derived.Test.YtbmnoenbhlfjaaaQ1
import Derived.Test.YtbmnoenbhlfjaaaQ2
namespace Go.Proofs.Ytbmnoenbhlfjaaa.Q
open Go.RowKit Go.Proofs.YtbmnoenbhlfjaaaW.PrintWords Go.Proofs.YtbmnoenbhlfjaaaW.PrintLast Go.Proofs.YtbmnoenbhlfjaaaW.PrintMore
attribute [local go_sem] max2_int min2_int max_two min_two max_three min_three max_four min_four   -- for this text's walks alone
set_option linter.unusedVariables false
set_option linter.unusedSimpArgs false

/-! ### spec_l7Dominators: function 72 (by hand: an element's row is handed to what writes it) -/
mutual
def spec_l7Dominators.l0 : Nat → List (List Int) → List Int → List (List Int) → Int → Option (List (List Int))
 | 0,_,_,_,_ => none
 | k + 1,g,rs,x,d => if d < (g.length : Int) then ((spec_l7Without.f k g d).bind fun l => (spec_l7Dominators.l1 k g rs l x d 0)) else some x
def spec_l7Dominators.l1 : Nat → List (List Int) → List Int → List Int → List (List Int) → Int → Int → Option (List (List Int))
 | 0,_,_,_,_,_,_ => none
 | k + 1,g,rs,l,x,d,i => if i < (rs.length : Int) then (if 0 ≤ i then ((spec_l1Has.f k rs d).bind fun b => (if b = true then ((spec_l1Has.f k l (rd rs i)).bind fun c => (if c = true then (spec_l7Dominators.l1 k g rs l x d (wrap64 (i + 1))) else (if 0 ≤ rd rs i then (if rd rs i < (x.length : Int) then ((spec_l1Put.f k (x.getD (rd rs i).toNat []) d).bind fun y => (spec_l7Dominators.l1 k g rs l (x.set (rd rs i).toNat y) d (wrap64 (i + 1)))) else none) else none))) else (spec_l7Dominators.l1 k g rs l x d (wrap64 (i + 1))))) else none) else spec_l7Dominators.l0 k g rs x (wrap64 (d + 1))
end
def spec_l7Dominators.f (k : Nat) (g : List (List Int)) : Option (List (List Int)):=if g.length ≤ 11728124029610 then ((spec_l7Without.f k g (-1)).bind fun rs => (spec_l7Dominators.l0 k g rs (List.replicate g.length []) 0)) else none
theorem spec_l7Dominators.mono_l : ∀ k,(∀ y0 y1 y2 y3,LeO (spec_l7Dominators.l0 k y0 y1 y2 y3) (spec_l7Dominators.l0 (k + 1) y0 y1 y2 y3)) ∧ (∀ y0 y1 y2 y3 y4 y5,LeO (spec_l7Dominators.l1 k y0 y1 y2 y3 y4 y5) (spec_l7Dominators.l1 (k + 1) y0 y1 y2 y3 y4 y5))
 | 0 => ⟨fun _ _ _ _ r h => by simp [spec_l7Dominators.l0] at h,fun _ _ _ _ _ _ r h => by simp [spec_l7Dominators.l1] at h⟩
 | k + 1 => by
  obtain ⟨ih0,ih1⟩:=spec_l7Dominators.mono_l k
  refine ⟨?_,?_⟩
  ·intro y0 y1 y2 y3
   unfold spec_l7Dominators.l0
   repeat' first
   | (with_reducible exact ih0 _ _ _ _)
   | (with_reducible exact ih1 _ _ _ _ _ _)
   | (with_reducible exact spec_l7Without.mono _ _ _)
   | (with_reducible exact spec_l1Has.mono _ _ _)
   | (with_reducible exact spec_l1Put.mono _ _ _)
   | (with_reducible exact LeO.refl _)
   | (with_reducible exact LeO.none _)
   | (with_reducible refine LeO.ite ?_ ?_)
   | (with_reducible refine LeO.bind ?_ (fun _ => ?_))
  ·intro y0 y1 y2 y3 y4 y5
   unfold spec_l7Dominators.l1
   repeat' first
   | (with_reducible exact ih0 _ _ _ _)
   | (with_reducible exact ih1 _ _ _ _ _ _)
   | (with_reducible exact spec_l7Without.mono _ _ _)
   | (with_reducible exact spec_l1Has.mono _ _ _)
   | (with_reducible exact spec_l1Put.mono _ _ _)
   | (with_reducible exact LeO.refl _)
   | (with_reducible exact LeO.none _)
   | (with_reducible refine LeO.ite ?_ ?_)
   | (with_reducible refine LeO.bind ?_ (fun _ => ?_))
theorem spec_l7Dominators.mono : ∀ a0 k,LeO (spec_l7Dominators.f k a0) (spec_l7Dominators.f (k + 1) a0):=by
 intro a0 k
 obtain ⟨ih0,ih1⟩:=spec_l7Dominators.mono_l k
 unfold spec_l7Dominators.f
 repeat' first
   | (with_reducible exact ih0 _ _ _ _)
   | (with_reducible exact ih1 _ _ _ _ _ _)
   | (with_reducible exact spec_l7Without.mono _ _ _)
   | (with_reducible exact spec_l1Has.mono _ _ _)
   | (with_reducible exact spec_l1Put.mono _ _ _)
   | (with_reducible exact LeO.refl _)
   | (with_reducible exact LeO.none _)
   | (with_reducible refine LeO.ite ?_ ?_)
   | (with_reducible refine LeO.bind ?_ (fun _ => ?_))
/-- What holds between the rounds: the variable g, out, reach. -/
structure L7Inv (w W : World) (gb : Nat) (A0 : Option Addr) (n c : Nat) (vo vr : Value) (x : List (List Int)) (rs : List Int) (F : Nat → Prop) : Prop where
 box : W.heap[gb]? = some (.cells #[.slice A0 n c] 28 (0,0))
 below : Below w.heap.size w W
 out : Kd.S (Kd.slice 3 (Kd.int .i64)) 43 W w.heap.size (fun k => ¬ F k) vo x
 row : (Kd.int .i64).R 3 W w.heap.size (fun k => some k = vr.ownBlock) vr rs
 fbox : F gb
 frow : ∀ k,some k = vr.ownBlock → F k
 flt : ∀ k,F k → k < W.heap.size
theorem L7Inv.step {w W W' : World} {gb : Nat} {A0 : Option Addr} {n c : Nat} {vo vr : Value} {x : List (List Int)} {rs : List Int} {F : Nat → Prop} (h : L7Inv w W gb A0 n c vo vr x rs F) (hb : Below W.heap.size W W') : L7Inv w W' gb A0 n c vo vr x rs F :=
 ⟨blk_below h.box hb,below_step h.below hb,Kd.S_below h.out hb,Kd.R_below h.row hb,h.fbox,h.frow,fun k hk => Nat.lt_of_lt_of_le (h.flt k hk) hb.size⟩
theorem L7Inv.drewN {w W : World} {gb : Nat} {A0 : Option Addr} {n c : Nat} {vo vr : Value} {x : List (List Int)} {rs : List Int} {F : Nat → Prop} (h : L7Inv w W gb A0 n c vo vr x rs F) (m : Nat) : L7Inv w (W.drewN m) gb A0 n c vo vr x rs F:=h.step (pw_below_drewN (Below.refl _ _) m)
/-- A list left is made: out is apart from it, too. -/
theorem L7Inv.more {w W W' : World} {gb : Nat} {A0 : Option Addr} {n c : Nat} {vo vr vl : Value} {x : List (List Int)} {rs ls : List Int} {F : Nat → Prop} (h : L7Inv w W gb A0 n c vo vr x rs F) (hb : Below W.heap.size W W') (hl : (Kd.int .i64).R 3 W' W.heap.size (fun _ => True) vl ls) :
  L7Inv w W' gb A0 n c vo vr x rs (fun k => F k ∨ some k = vl.ownBlock):=by
 have h2:=h.step hb
 refine ⟨h2.box,h2.below,?_,h2.row,.inl h2.fbox,fun k hk => .inl (h2.frow k hk),fun k hk => hk.elim (h2.flt k) (fun e => Kd.R_lt hl k e.symm)⟩
 exact Kd.S_mono (Kd.S_below (Kd.S_bound h.out) hb) (fun k hk he => he.elim hk.1 (fun e => by have:=Kd.R_base hl k e.symm;have:=hk.2.2.1;omega))
theorem L7Inv.less {w W : World} {gb : Nat} {A0 : Option Addr} {n c : Nat} {vo vr : Value} {x : List (List Int)} {rs : List Int} {F F' : Nat → Prop} (h : L7Inv w W gb A0 n c vo vr x rs (fun k => F k ∨ F' k)) (hb : F gb) (hr : ∀ k,some k = vr.ownBlock → F k) : L7Inv w W gb A0 n c vo vr x rs F :=
 ⟨h.box,h.below,Kd.S_mono h.out (fun k hk hf => hk (.inl hf)),h.row,hb,hr,fun k hk => h.flt k (.inl hk)⟩
/-- An element's row was handed over and stored back. -/
theorem L7Inv.put {w W W4 : World} {gb g nn cap : Nat} {A0 : Option Addr} {n c : Nat} {vr ve v0 : Value} {x : List (List Int)} {y : List Int} {i : Int} {rs : List Int} {F oki : Nat → Prop} (h : L7Inv w W gb A0 n c (.slice (some ⟨g,0,none⟩) nn cap) vr x rs F)
  (hH : Kd.H (Kd.slice 3 (Kd.int .i64)) 43 W w.heap.size (fun k => ¬ F k) (.slice (some ⟨g,0,none⟩) nn cap) x i oki [ve]) (h0 : 0 ≤ i) (h1 : i < nn) (hg : ¬ F g) (hgb : w.heap.size ≤ g)
  (hk : Kept W W4 oki) (hb : Below w.heap.size w W4) (hr : (Kd.int .i64).R 3 W4 w.heap.size (fun k => oki k ∨ W.heap.size ≤ k) v0 y) : L7Inv w (W4.setCell ⟨g,i.toNat,none⟩ v0) gb A0 n c (.slice (some ⟨g,0,none⟩) nn cap) vr (x.set i.toNat y) rs F ∧ ∀ k,F k → (W4.setCell ⟨g,i.toNat,none⟩ v0).heap[k]? = W.heap[k]?:=by
 obtain ⟨h2,h3⟩:=S_upd hH h0 h1 hg h.flt hk hr
 exact ⟨⟨(h3 gb h.fbox).trans h.box,hb.setCell hgb _,h2,R_same h.row h.frow h3,h.fbox,h.frow,fun k hf => Nat.lt_of_lt_of_le (h.flt k hf) (Nat.le_trans hk.1 (by simp [World.setCell]))⟩,h3⟩
set_option maxHeartbeats 8000000 in
set_option maxRecDepth 100000 in
theorem spec_l7Dominators.calls (k : Nat) (A0_0 : Option Addr) (c0_0 : Nat) (l0_0 : List (List Int)) (r : List (List Int)) (w : World) (hr0_0 : Kd.C (Kd.slice 3 (Kd.int .i64)) w A0_0 l0_0.length l0_0) (hc0_0 : l0_0.length ≤ c0_0) (h : spec_l7Dominators.f k l0_0 = some r) :
  Calls Try.prog 72 #[.agg #[.slice A0_0 l0_0.length c0_0]] w fun e w' => ∃ v0_ : Value,e = .returned (v0_) ∧ Kd.S (Kd.slice 3 (Kd.int .i64)) 43 w' w.heap.size (fun _ => True) v0_ r ∧ Below w.heap.size w w':=by
 have hu27:=Try.underlying28
 have HR0:=Aside0.mk hr0_0
 have HC0:=Aside0.mk hc0_0
 clear hr0_0 hc0_0
 unfold spec_l7Dominators.f at h
 by_cases c1 : l0_0.length ≤ 11728124029610
 rotate_left
 ·rw [if_neg c1] at h;exact absurd h (by simp)
 rw [if_pos c1] at h
 obtain ⟨rs,A1,H⟩:=Option.bind_eq_some_iff.mp h
 have A:=Aside0.mk A1
 have H':=Aside0.mk H
 clear h A1 H
 have c2 : decide (0 ≤ (l0_0.length : Int)) = true:=decide_eq_true (by omega)
 have c3 : (0 ≤ (l0_0.length : Int)) = True:=eq_true (by omega)
 obtain ⟨y,hy⟩ : ∃ y : List (List Int),y = List.replicate (l0_0.length : Int).toNat []:=⟨_,rfl⟩
 have HY:=Aside0.mk hy
 rw [Int.toNat_natCast] at hy
 rw [← hy] at H'
 have HM:=Aside0.mk c1
 clear c1 hy
 go_enter Try.func72,Try.ntmps72
 go_wp2_with (first | ((with_reducible refine gate_dst (N:=1) rfl ?_);refine box_event ?hg (N:=1) ?hd (cs:=#[.slice A0_0 l0_0.length c0_0]) (t:=28) ?hr ?_;(case hd => rfl);(case hg => rfl);(case hr => first | (go_simp;done) | (go_simp;rfl));intro gb hg w1 hbox hb;have BK:=Aside0.mk hbox;have GB:=Aside0.mk hg;have HB:=Aside0.mk hb;clear hbox hb hg;have hcz1 : w1.cell? ⟨gb,0,none⟩ = some (.slice A0_0 l0_0.length c0_0):=(blk_cell BK.out 0).trans rfl;have hfz1:=blk_frozen BK.out 0) | ((with_reducible refine gate_dst (N:=12) rfl ?_);refine Kd.S_make (Kd.slice 3 (Kd.int .i64)) _ 43 rfl (N:=12) rfl 22 _ _ rfl (l0_0.length : Int) rfl rfl Try.underlying22 (.slice none 0 0) 24 (by kernel_rfl) rfl (by decide) (by omega) [] (ok:=fun _ => True) (okp:=fun _ => True) ⟨_,rfl,Kd.R_nil _ _ _ _ _⟩ (fun _ hk => hk) trivial (by omega) (by have:=HM.out;rw [Int.toNat_natCast];omega) (Below.refl _ _) (Nat.le_refl _) ?_;intro vo w2 ho5 hb hg_ hnew_;clear hg_ hnew_;rw [← HY.out] at ho5;have HO:=Aside0.mk ho5;have BK2:=Aside0.mk (blk_below BK.out hb);have HB2:=Aside0.mk (below_step HB.out hb);have HG:=Aside0.mk (blk_lt BK.out);clear hb ho5 BK HB;have hcz2 : w2.cell? ⟨gb,0,none⟩ = some (.slice A0_0 l0_0.length c0_0):=(blk_cell BK2.out 0).trans rfl;have hfz2:=blk_frozen BK2.out 0))
 refine (spec_l7Without.calls k _ _ l0_0 (-1) rs _ (Kd.C_below HR0.out HB2.out) HC0.out A.out).mono ?_
 rintro e w3 ⟨vr,rfl,ho0,hb⟩
 have HI:=Aside0.mk (show L7Inv w w3 gb A0_0 l0_0.length c0_0 vo vr y rs (fun k => k = gb ∨ some k = vr.ownBlock) from ⟨blk_below BK2.out hb,below_step HB2.out hb,Kd.S_lower (Kd.S_mono (Kd.S_below (Kd.S_bound HO.out) hb) (fun k hk he => he.elim (fun e => by have:=HG.out;have:=hk.2.1;omega) (fun e => by have:=Kd.R_base ho0 k e.symm;have:=hk.2.2.1;omega))) (by have:=GB.out;have:=HG.out;omega),Kd.R_tight rfl (Kd.R_lower ho0 HB2.out.size),.inl rfl,fun k e => .inr e,fun k hk => hk.elim (fun e => by have:=HG.out;have:=blk_lt (blk_below BK2.out hb);omega) (fun e => Kd.R_lt ho0 k e.symm)⟩)
 clear hb ho0 BK2 HB2 HO HG GB hcz2 hfz2 hcz1 hfz1
 obtain ⟨Ar,cr,er⟩:=Kd.R_slice HI.out.row
 subst er
 obtain ⟨Ao,co,eo⟩:=Kd.S_slice HI.out.out
 subst eo
 have hcz3 : w3.cell? ⟨gb,0,none⟩ = some (.slice A0_0 l0_0.length c0_0):=(blk_cell HI.out.box 0).trans rfl
 have hfz3:=blk_frozen HI.out.box 0
 go_wp2
 clear hcz3 hfz3
 obtain ⟨F,HI⟩ : ∃ F,Aside0 (L7Inv w w3 gb A0_0 l0_0.length c0_0 (.slice Ao y.length co) (.slice Ar rs.length cr) y rs F):=⟨_,HI⟩
 go_loopg [18] k (fun kq v18 w' => ∃ (x : List (List Int)) (d : Int),v18 = .int .i64 d ∧ Aside0 (spec_l7Dominators.l0 kq l0_0 rs x d = some r) ∧ Aside0 (kq ≤ k) ∧ Aside0 (L7Inv w w' gb A0_0 l0_0.length c0_0 (.slice Ao y.length co) (.slice Ar rs.length cr) x rs F))
 case atStart => exact ⟨y,0,rfl,H',⟨Nat.le_refl _⟩,HI⟩
 case round =>
  clear H' HI HY
  obtain ⟨x,d,rfl,HA,HK1,HI⟩:=hrel
  cases gk with
  | zero => exact absurd HA.out (by simp [spec_l7Dominators.l0])
  | succ k1 =>
   have H:=HA.out
   clear HA
   simp only [spec_l7Dominators.l0] at H
   by_cases c3 : d < (l0_0.length : Int)
   ·rw [if_pos c3] at H
    obtain ⟨ls,A1,H⟩:=Option.bind_eq_some_iff.mp H
    have A4:=Aside0.mk A1
    have H':=Aside0.mk H
    have c3b0 : decide (d < (l0_0.length : Int)) = true:=decide_eq_true c3
    have hcz4 : wr.cell? ⟨gb,0,none⟩ = some (.slice A0_0 l0_0.length c0_0):=(blk_cell HI.out.box 0).trans rfl
    have hfz4:=blk_frozen HI.out.box 0
    clear A1 H c3
    go_wp2_with (first | (go_at_call 54;(with_reducible refine (spec_l7Without.calls k1 _ _ l0_0 d ls _ (Kd.C_below HR0.out HI.out.below) HC0.out A4.out).mono ?_);rintro e w4 ⟨vl,rfl,ho0,hb⟩;have HI2:=Aside0.mk (HI.out.more hb ho0);have HL:=Aside0.mk (Kd.R_tight rfl (Kd.R_lower ho0 HI.out.below.size));have HFB:=Aside0.mk HI.out.fbox;have HFR:=Aside0.mk HI.out.frow;clear hb ho0 HI hcz4 hfz4 A4))
    obtain ⟨Al,cl,el⟩:=Kd.R_slice HL.out
    subst el
    go_loopg [26] k1 (fun kq v26 w' => ∃ (x : List (List Int)) (j : Int),v26 = .int .i64 j ∧ Aside0 (spec_l7Dominators.l1 kq l0_0 rs ls x d j = some r) ∧ Aside0 (kq ≤ k1) ∧ Aside0 (L7Inv w w' gb A0_0 l0_0.length c0_0 (.slice Ao y.length co) (.slice Ar rs.length cr) x rs (fun k_ => F k_ ∨ some k_ = (.slice Al ls.length cl : Value).ownBlock)) ∧ Aside0 ((Kd.int .i64).R 3 w' w.heap.size (fun k_ => some k_ = (.slice Al ls.length cl : Value).ownBlock) (.slice Al ls.length cl) ls))
    case atStart => exact ⟨x,0,rfl,H',⟨Nat.le_refl _⟩,HI2,HL⟩
    case round =>
     clear H' HI2 HL
     obtain ⟨x,j,rfl,HA,HK2,HI,HL⟩:=hrel
     cases gk with
     | zero => exact absurd HA.out (by simp [spec_l7Dominators.l1])
     | succ k2 =>
      have H:=HA.out
      clear HA
      simp only [spec_l7Dominators.l1] at H
      by_cases c5 : j < (rs.length : Int)
      ·rw [if_pos c5] at H
       by_cases c6 : 0 ≤ j
       ·rw [if_pos c6] at H
        obtain ⟨b,A1,H⟩:=Option.bind_eq_some_iff.mp H
        have A5:=Aside0.mk A1
        clear A1
        have hrr:=Kd.R_reads' HI.out.row
        obtain ⟨ad,e1,hx1⟩:=Kd.at_int hrr.2.2 j c6 c5
        cases e1
        have HRS:=Aside0.mk hrr.2.2
        have HRC:=Aside0.mk hrr.2.1
        have c5b0 : decide (j < (rs.length : Int)) = true:=decide_eq_true c5
        have c6b0 : decide (0 ≤ j) = true:=decide_eq_true c6
        have p5:=eq_true c5
        have p6:=eq_true c6
        clear hrr c5 c6
        cases b with
        | false =>
         rw [if_neg (by decide)] at H
         have H':=Aside0.mk H
         clear H
         go_wp2_with (first | (go_at_call 45;(with_reducible refine (spec_l1Has.calls k2 _ _ rs d false _ HRS.out HRC.out A5.out).mono ?_);rintro e w5 ⟨rfl,⟨nd,rfl⟩⟩))
         go_roundg k2
         case measure => have:=HK2.out;omega
         case rel => exact ⟨x,_,rfl,H',⟨by have:=HK2.out;omega⟩,⟨HI.out.drewN _⟩,⟨Kd.R_drewN HL.out _⟩⟩
        | true =>
         rw [if_pos rfl] at H
         obtain ⟨c,A1,H⟩:=Option.bind_eq_some_iff.mp H
         have A6:=Aside0.mk A1
         clear A1
         have hrl:=Kd.R_reads' HL.out
         have HLS:=Aside0.mk hrl.2.2
         have HLC:=Aside0.mk hrl.2.1
         clear hrl
         cases c with
         | true =>
          rw [if_pos rfl] at H
          have H':=Aside0.mk H
          clear H
          go_wp2_with (first | (go_at_call 45;(with_reducible refine (spec_l1Has.calls k2 _ _ rs d true _ HRS.out HRC.out A5.out).mono ?_);rintro e w5 ⟨rfl,⟨nd,rfl⟩⟩) | (go_at_call 45;(with_reducible refine (spec_l1Has.calls k2 _ _ ls (rd rs j) true _ (Kd.C_drewN HLS.out _) HLC.out A6.out).mono ?_);rintro e w6 ⟨rfl,⟨nd2,rfl⟩⟩))
          go_roundg k2
          case measure => have:=HK2.out;omega
          case rel => exact ⟨x,_,rfl,H',⟨by have:=HK2.out;omega⟩,⟨HI.out.drewN _⟩,⟨Kd.R_drewN HL.out _⟩⟩
         | false =>
          rw [if_neg (by decide)] at H
          by_cases c7 : 0 ≤ rd rs j
          ·rw [if_pos c7] at H
           by_cases c8 : rd rs j < (x.length : Int)
           ·rw [if_pos c8] at H
            obtain ⟨z,A1,H⟩:=Option.bind_eq_some_iff.mp H
            have A7:=Aside0.mk A1
            have H':=Aside0.mk H
            have hlen:=(Kd.S_reads' HI.out.out).1
            obtain ⟨g,oki,ve,rfl,hx2,hf2,hR,hoki,hPg,hbg,hH⟩:=S_row HI.out.out (rd rs j) c7 (by omega)
            have HH:=Aside0.mk hH
            have HR:=Aside0.mk hR
            have HKI:=Aside0.mk hoki
            have HPG:=Aside0.mk hPg
            have HBG:=Aside0.mk hbg
            have c7b : decide (0 ≤ rd rs j) = true:=decide_eq_true c7
            have c8b : decide (rd rs j < (y.length : Int)) = true:=decide_eq_true (by omega)
            have p7:=eq_true c7
            have p8 : (rd rs j < (y.length : Int)) = True:=eq_true (by omega)
            have HQ:=Aside0.mk (show rd rs j < (y.length : Int) by omega)
            have HQ0:=Aside0.mk c7
            clear A1 H hH hR hoki hPg hbg hlen c7 c8
            go_wp2_with (first | (go_at_call 45;(with_reducible refine (spec_l1Has.calls k2 _ _ rs d true _ HRS.out HRC.out A5.out).mono ?_);rintro e w5 ⟨rfl,⟨nd,rfl⟩⟩) | (go_at_call 45;(with_reducible refine (spec_l1Has.calls k2 _ _ ls (rd rs j) false _ (Kd.C_drewN HLS.out _) HLC.out A6.out).mono ?_);rintro e w6 ⟨rfl,⟨nd2,rfl⟩⟩) | (go_at_call 55;(with_reducible refine (spec_l1Put.calls k2 oki ve (x.getD (rd rs j).toNat []) d z w _ (HI.out.drewN _).below (Kd.R_drewN HR.out _) A7.out).mono ?_);rintro e w7 ⟨v0,rfl,hr0,hb,hkp⟩;obtain ⟨A0v,c0v,e0v⟩:=Kd.R_slice hr0;subst e0v;have hput:=(HI.out.drewN _).put (Kd.H_drewN HH.out _) HQ0.out HQ.out HPG.out HBG.out hkp hb hr0;have hx7 : w7.cell? ⟨g,(rd rs j).toNat,none⟩ = some ve:=cell_kept (W:=wr.drewN _) hx2 hkp (fun h_ => (HKI.out g h_).2 rfl);have hf7 : w7.frozen? ⟨g,(rd rs j).toNat,none⟩ = false:=(frozen_kept hkp (fun h_ => (HKI.out g h_).2 rfl) (World.block_lt_of_cell? (wr.drewN _) _ hx2)).trans hf2;have HI7:=Aside0.mk hput.1;have HL7:=Aside0.mk (R_same (Kd.R_drewN HL.out _) (fun _ e_ => .inr e_) hput.2);clear hput hr0 hb hkp HR HH HKI HPG HBG HI HL HLS HLC HRS HRC hx2 hf2 hx1))
            go_roundg k2
            case measure => have:=HK2.out;omega
            case rel => exact ⟨_,_,rfl,H',⟨by have:=HK2.out;omega⟩,HI7,HL7⟩
           ·rw [if_neg c8] at H;exact absurd H (by simp)
          ·rw [if_neg c7] at H;exact absurd H (by simp)
       ·rw [if_neg c6] at H;exact absurd H (by simp)
      ·rw [if_neg c5] at H
       have H':=Aside0.mk H
       have c5b0 : decide (j < (rs.length : Int)) = false:=decide_eq_false c5
       clear H c5
       go_wp2
       go_roundg k2
       case measure => have:=HK2.out;have:=HK1.out;omega
       case rel => exact ⟨x,_,rfl,H',⟨by have:=HK2.out;have:=HK1.out;omega⟩,⟨HI.out.less HFB.out HFR.out⟩⟩
   ·rw [if_neg c3] at H
    obtain rfl:=Option.some.inj H
    have c3b0 : decide (d < (l0_0.length : Int)) = false:=decide_eq_false c3
    clear c3
    go_wp2
    go_ret
    exact ⟨_,rfl,Kd.S_mono HI.out.out (fun _ _ => trivial),HI.out.below⟩

/-! ### spec_l7Cyclic: function 73 -/
mutual
def spec_l7Cyclic.l0 : Nat → List (List Int) → List Int → List (List Int) → Option (Bool)
 | 0,_,_,_ => none
 | k + 1,x1,x5,x159000 => spec_l7Cyclic.l1 k x1 x5 ([] : List Int) x5 (x5.length : Int) 0 x159000
def spec_l7Cyclic.l1 : Nat → List (List Int) → List Int → List Int → List Int → Int → Int → List (List Int) → Option (Bool)
 | 0,_,_,_,_,_,_,_ => none
 | k + 1,x1,x5,x6,x14,x15,x16,x159000 => if x16 < x15 then (if 0 ≤ x16 then (if x16 < (x14.length : Int) then (if 0 ≤ (rd x14 x16) then (if (rd x14 x16) < (x159000.length : Int) then (spec_l7Cyclic.l2 k x1 x5 x6 (rd x14 x16) false x14 x15 x16 (rd_L1 x159000 (rd x14 x16)) ((rd_L1 x159000 (rd x14 x16)).length : Int) 0 x159000) else (none)) else (none)) else (none)) else (none)) else (if (x6.length : Int) = (x5.length : Int) then (some (decide ((x5.length : Int) > 0))) else (spec_l7Cyclic.l0 k x1 x6 x159000))
def spec_l7Cyclic.l2 : Nat → List (List Int) → List Int → List Int → Int → Bool → List Int → Int → Int → List Int → Int → Int → List (List Int) → Option (Bool)
 | 0,_,_,_,_,_,_,_,_,_,_,_,_ => none
 | k + 1,x1,x5,x6,x8,x9,x14,x15,x16,x24,x25,x26,x159000 => if x26 < x25 then (if 0 ≤ x26 then (if x26 < (x24.length : Int) then (if x9 = true then (spec_l7Cyclic.l2 k x1 x5 x6 x8 true x14 x15 x16 x24 x25 (wrap64 (x26 + 1)) x159000) else ((spec_l1Has.f k x5 (rd x24 x26)).bind fun t165 => (if t165 = true then (if 0 ≤ x8 then (if x8 < (x1.length : Int) then ((spec_l1Has.f k (rd_L1 x1 x8) (rd x24 x26)).bind fun t167 => (spec_l7Cyclic.l2 k x1 x5 x6 x8 (!t167) x14 x15 x16 x24 x25 (wrap64 (x26 + 1)) x159000)) else (none)) else (none)) else (spec_l7Cyclic.l2 k x1 x5 x6 x8 false x14 x15 x16 x24 x25 (wrap64 (x26 + 1)) x159000)))) else (none)) else (none)) else (if x9 = true then (if x6.length < 17592186044416 then (spec_l7Cyclic.l1 k x1 x5 (x6 ++ [x8]) x14 x15 (wrap64 (x16 + 1)) x159000) else (none)) else (spec_l7Cyclic.l1 k x1 x5 x6 x14 x15 (wrap64 (x16 + 1)) x159000))
end
def spec_l7Cyclic.f (k : Nat) (l0_0 : List (List Int)) (l1 : List (List Int)) : Option (Bool):=(spec_l7Without.f k l0_0 (-1)).bind fun t159 => (spec_l7Cyclic.l0 k l1 t159 l0_0)
theorem spec_l7Cyclic.mono_l : ∀ k,(∀ y0 y1 y2,LeO (spec_l7Cyclic.l0 k y0 y1 y2) (spec_l7Cyclic.l0 (k + 1) y0 y1 y2)) ∧ (∀ y0 y1 y2 y3 y4 y5 y6,LeO (spec_l7Cyclic.l1 k y0 y1 y2 y3 y4 y5 y6) (spec_l7Cyclic.l1 (k + 1) y0 y1 y2 y3 y4 y5 y6)) ∧ (∀ y0 y1 y2 y3 y4 y5 y6 y7 y8 y9 y10 y11,LeO (spec_l7Cyclic.l2 k y0 y1 y2 y3 y4 y5 y6 y7 y8 y9 y10 y11) (spec_l7Cyclic.l2 (k + 1) y0 y1 y2 y3 y4 y5 y6 y7 y8 y9 y10 y11))
 | 0 => ⟨fun _ _ _ r h => by simp [spec_l7Cyclic.l0] at h,fun _ _ _ _ _ _ _ r h => by simp [spec_l7Cyclic.l1] at h,fun _ _ _ _ _ _ _ _ _ _ _ _ r h => by simp [spec_l7Cyclic.l2] at h⟩
 | k + 1 => by
  obtain ⟨ih0,ih1,ih2⟩:=spec_l7Cyclic.mono_l k
  refine ⟨?_,?_,?_⟩
  ·intro y0 y1 y2
   unfold spec_l7Cyclic.l0
   repeat' first
   | (with_reducible exact ih0 _ _ _)
   | (with_reducible exact ih1 _ _ _ _ _ _ _)
   | (with_reducible exact ih2 _ _ _ _ _ _ _ _ _ _ _ _)
   | (with_reducible exact spec_l1Has.mono _ _ _)
   | (with_reducible exact spec_l7Without.mono _ _ _)
   | (with_reducible exact LeO.refl _)
   | (with_reducible exact LeO.none _)
   | (with_reducible refine LeO.ite ?_ ?_)
   | (with_reducible refine LeO.bind ?_ (fun _ => ?_))
   | exact ih0 _ _ _
   | exact ih1 _ _ _ _ _ _ _
   | exact ih2 _ _ _ _ _ _ _ _ _ _ _ _
   | exact spec_l1Has.mono _ _ _
   | exact spec_l7Without.mono _ _ _
   | exact LeO.none _
   | refine LeO.ite ?_ ?_
   | refine LeO.bind ?_ (fun _ => ?_)
  ·intro y0 y1 y2 y3 y4 y5 y6
   unfold spec_l7Cyclic.l1
   repeat' first
   | (with_reducible exact ih0 _ _ _)
   | (with_reducible exact ih1 _ _ _ _ _ _ _)
   | (with_reducible exact ih2 _ _ _ _ _ _ _ _ _ _ _ _)
   | (with_reducible exact spec_l1Has.mono _ _ _)
   | (with_reducible exact spec_l7Without.mono _ _ _)
   | (with_reducible exact LeO.refl _)
   | (with_reducible exact LeO.none _)
   | (with_reducible refine LeO.ite ?_ ?_)
   | (with_reducible refine LeO.bind ?_ (fun _ => ?_))
   | exact ih0 _ _ _
   | exact ih1 _ _ _ _ _ _ _
   | exact ih2 _ _ _ _ _ _ _ _ _ _ _ _
   | exact spec_l1Has.mono _ _ _
   | exact spec_l7Without.mono _ _ _
   | exact LeO.none _
   | refine LeO.ite ?_ ?_
   | refine LeO.bind ?_ (fun _ => ?_)
  ·intro y0 y1 y2 y3 y4 y5 y6 y7 y8 y9 y10 y11
   unfold spec_l7Cyclic.l2
   repeat' first
   | (with_reducible exact ih0 _ _ _)
   | (with_reducible exact ih1 _ _ _ _ _ _ _)
   | (with_reducible exact ih2 _ _ _ _ _ _ _ _ _ _ _ _)
   | (with_reducible exact spec_l1Has.mono _ _ _)
   | (with_reducible exact spec_l7Without.mono _ _ _)
   | (with_reducible exact LeO.refl _)
   | (with_reducible exact LeO.none _)
   | (with_reducible refine LeO.ite ?_ ?_)
   | (with_reducible refine LeO.bind ?_ (fun _ => ?_))
   | exact ih0 _ _ _
   | exact ih1 _ _ _ _ _ _ _
   | exact ih2 _ _ _ _ _ _ _ _ _ _ _ _
   | exact spec_l1Has.mono _ _ _
   | exact spec_l7Without.mono _ _ _
   | exact LeO.none _
   | refine LeO.ite ?_ ?_
   | refine LeO.bind ?_ (fun _ => ?_)
theorem spec_l7Cyclic.mono : ∀ a0 a1 k,LeO (spec_l7Cyclic.f k a0 a1) (spec_l7Cyclic.f (k + 1) a0 a1):=by
 intro a0 a1 k
 obtain ⟨ih0,ih1,ih2⟩:=spec_l7Cyclic.mono_l k
 unfold spec_l7Cyclic.f
 repeat' first
   | (with_reducible exact ih0 _ _ _)
   | (with_reducible exact ih1 _ _ _ _ _ _ _)
   | (with_reducible exact ih2 _ _ _ _ _ _ _ _ _ _ _ _)
   | (with_reducible exact spec_l1Has.mono _ _ _)
   | (with_reducible exact spec_l7Without.mono _ _ _)
   | (with_reducible exact LeO.refl _)
   | (with_reducible exact LeO.none _)
   | (with_reducible refine LeO.ite ?_ ?_)
   | (with_reducible refine LeO.bind ?_ (fun _ => ?_))
   | exact ih0 _ _ _
   | exact ih1 _ _ _ _ _ _ _
   | exact ih2 _ _ _ _ _ _ _ _ _ _ _ _
   | exact spec_l1Has.mono _ _ _
   | exact spec_l7Without.mono _ _ _
   | exact LeO.none _
   | refine LeO.ite ?_ ?_
   | refine LeO.bind ?_ (fun _ => ?_)
set_option maxHeartbeats 8000000 in
set_option maxRecDepth 100000 in
theorem spec_l7Cyclic.calls (k : Nat) (A0_0 : Option Addr) (c0_0 : Nat) (l0_0 : List (List Int)) (A1 : Option Addr) (c1 : Nat) (l1 : List (List Int)) (r : Bool) (w : World) (hr0_0 : Kd.C (Kd.slice 3 (Kd.int .i64)) w A0_0 l0_0.length l0_0) (hc0_0 : l0_0.length ≤ c0_0) (hr1 : Kd.C (Kd.slice 3 (Kd.int .i64)) w A1 l1.length l1) (hc1 : l1.length ≤ c1) (h : spec_l7Cyclic.f k l0_0 l1 = some r) :
  Calls Try.prog 73 #[.agg #[.slice A0_0 l0_0.length c0_0],.slice A1 l1.length c1] w fun e w' => e = .returned (.bool r) ∧ Below w.heap.size w w':=by
 have hu28:=Try.underlying28
 have HR0_0:=Aside0.mk hr0_0
 have HC0_0:=Aside0.mk hc0_0
 clear hr0_0 hc0_0
 have HR1:=Aside0.mk hr1
 have HC1:=Aside0.mk hc1
 clear hr1 hc1
 have HB:=Aside0.mk (Below.refl w.heap.size w)
 have H : ((spec_l7Without.f k l0_0 (-1)).bind fun t159 => (spec_l7Cyclic.l0 k l1 t159 l0_0)) = some r:=h
 clear h
 replace H:=Option.bind_eq_some_iff.mp H
 obtain ⟨t159,A30,H⟩:=H
 replace H : (spec_l7Cyclic.l0 k l1 t159 l0_0) = some r:=H
 have A3:=Aside0.mk A30
 clear A30
 have H':=Aside0.mk H
 clear H
 go_enter Try.func73,Try.ntmps73
 go_wp2_with (first | ((with_reducible refine gate_dst (N:=2) rfl ?_);refine box_event ?hg (N:=2) ?hd (cs:=#[.slice A0_0 l0_0.length c0_0]) (t:=28) ?hr ?_;(case hd => rfl);(case hg => rfl);(case hr => first | (go_simp;done) | (go_simp;rfl));intro gb158 hg w4 hbox hb;have n0_:=Aside0.mk (below_step (by repeat (first | (with_reducible first | exact HB.out | apply below_alloc | apply pw_below_drewN | apply below_drew1) | exact HB.out)) hb);have n1_:=Aside0.mk (hbox);have n2_:=Aside0.mk ((by rw [hg];exact (below_size (by repeat (first | (with_reducible first | exact HB.out | apply below_alloc | apply pw_below_drewN | apply below_drew1) | exact HB.out))) : w.heap.size ≤ gb158));have n3_:=Aside0.mk ((by rw [hg];exact (below_size (by repeat (first | (with_reducible first | exact HB.out | apply below_alloc | apply pw_below_drewN | apply below_drew1) | exact HB.out))) : w.heap.size ≤ gb158));clear HB;have HB:=n0_;have BK158:=n1_;have GW158:=n2_;have GE158:=n3_;clear n0_ n1_ n2_ n3_;clear hb hbox hg;have hcz5_0 : w4.cell? ⟨gb158,0,none⟩ = some (.slice A0_0 l0_0.length c0_0):=(blk_cell BK158.out 0).trans rfl;have hfz5_0:=blk_frozen BK158.out 0) | ((with_reducible refine gate_callee (f:=54) rfl ?_);refine goesL_ (some 13) rfl rfl Try.func54 (by kernel_rfl) rfl #[.agg #[.slice A0_0 l0_0.length c0_0],.int .i64 (-1)] rfl (by (try simp only [List.map_toArray,List.map_cons,List.map_nil]);first | done | rfl | (simp only [List.length_drop,List.length_take];rfl)) ?_;(with_reducible refine (spec_l7Without.calls k _ _ l0_0 (-1) t159 _ ?side1 ?side2 A3.out).mono ?_);(case side1 => repeat (first | exact (Kd.C_below HR0_0.out HB.out) | (with_reducible refine Kd.C_alloc ?_ _) | (with_reducible refine Kd.C_drewN ?_ _) | (with_reducible refine Kd.C_drew ?_)));(case side2 => exact HC0_0.out);rintro e w6 ⟨v160,rfl,ho0,hb⟩;refine ⟨_,rfl,?_⟩;have n0_:=Aside0.mk (Kd.R_lower ho0 (below_size (by repeat (first | (with_reducible first | exact HB.out | apply below_alloc | apply pw_below_drewN | apply below_drew1 | refine below_set ?_ GE158.out) | exact HB.out))));have n1_:=Aside0.mk (blk_below (g:=gb158) (o:=.cells #[.slice A0_0 l0_0.length c0_0] 28 (0,0)) (by (with_reducible repeat (first | refine blk_drewN ?_ _ | refine blk_drew ?_ | refine blk_alloc ?_ _));exact BK158.out) hb);have n2_:=Aside0.mk (below_step (by repeat (first | (with_reducible first | exact HB.out | apply below_alloc | apply pw_below_drewN | apply below_drew1 | refine below_set ?_ GE158.out) | exact HB.out)) hb);clear BK158;clear HB;have HO161:=n0_;have BK158:=n1_;have HB:=n2_;clear n0_ n1_ n2_;(try clear hb);(try clear hb2);(try clear hk);(try clear hi);(try clear ho0)))
 go_loopg [5] k (fun kq v5 w' => ∃ (x5_1 : List Int),Aside0 (spec_l7Cyclic.l0 kq l1 x5_1 l0_0 = some r) ∧ Aside0 (kq ≤ k) ∧ Aside0 (Kd.R (Kd.int .i64) 3 w' w.heap.size (fun _ => True) v5 x5_1) ∧ Aside0 (w'.heap[gb158]? = some (.cells #[(.slice A0_0 l0_0.length c0_0)] 28 (0,0))) ∧ Aside0 (Below w.heap.size w w'))
 case atStart => exact ⟨(t159),H',⟨Nat.le_refl _⟩,⟨by (with_reducible repeat (first | apply Kd.R_alloc | apply Kd.R_drewN | apply Kd.R_drew));exact HO161.out⟩,⟨by (with_reducible repeat (first | refine blk_drewN ?_ _ | refine blk_drew ?_ | refine blk_alloc ?_ _));exact BK158.out⟩,⟨by repeat (first | (with_reducible first | exact HB.out | apply below_alloc | apply pw_below_drewN | apply below_drew1 | refine below_set ?_ GE158.out) | exact HB.out)⟩⟩
 case round =>
  clear H'
  try clear c1
  try clear p2
  try clear c5
  try clear hcz5_0
  try clear hfz5_0
  obtain ⟨x5_1,HA,HK1,HO_5,BK158,HB⟩:=hrel
  cases gk with
  | zero => exact absurd HA.out (by simp [spec_l7Cyclic.l0])
  | succ k1 =>
   have H:=HA.out
   clear HA
   simp only [spec_l7Cyclic.l0] at H
   have H':=Aside0.mk H
   clear H
   obtain ⟨Ao7,co7,eo7⟩:=Kd.R_slice HO_5.out
   subst eo7
   go_wp2
   go_loopg [6,16] k1 (fun kq v6 v16 w' => ∃ (x6_2 : List Int) (x16_2 : Int),v16 = .int .i64 x16_2 ∧ Aside0 (spec_l7Cyclic.l1 kq l1 x5_1 x6_2 x5_1 (x5_1.length : Int) x16_2 l0_0 = some r) ∧ Aside0 (kq ≤ k1) ∧ Aside0 (Kd.R (Kd.int .i64) 3 w' w.heap.size (fun k_ => some k_ ≠ (v6 : Value).ownBlock) (.slice Ao7 x5_1.length co7) x5_1) ∧ Aside0 (Kd.R (Kd.int .i64) 3 w' w.heap.size (fun k_ => some k_ ≠ ((.slice Ao7 x5_1.length co7) : Value).ownBlock ∧ some k_ ≠ ((.slice Ao7 x5_1.length co7) : Value).ownBlock) v6 x6_2) ∧ Aside0 (Kd.R (Kd.int .i64) 3 w' w.heap.size (fun k_ => some k_ ≠ (v6 : Value).ownBlock) (.slice Ao7 x5_1.length co7) x5_1) ∧ Aside0 (w'.heap[gb158]? = some (.cells #[(.slice A0_0 l0_0.length c0_0)] 28 (0,0))) ∧ Aside0 (Below w.heap.size w w'))
   case atStart => exact ⟨(([] : List Int)),(0),(by first | rfl | (simp;done) | (simp [*];done)),H',⟨Nat.le_refl _⟩,⟨by (with_reducible repeat (first | apply Kd.R_alloc | apply Kd.R_drewN | apply Kd.R_drew));exact Kd.R_mono HO_5.out (fun _ hk => (by simp [Value.ownBlock]))⟩,⟨by first | exact Kd.R_nil _ _ _ _ _ | exact Kd.N_nil _ _ _ _ _ | exact Kd.V_nil _ _ _ _ _ | exact Kd.Q_nil _ _ _ _ _ | exact Kd.S_nil _ _ _ _ _⟩,⟨by (with_reducible repeat (first | apply Kd.R_alloc | apply Kd.R_drewN | apply Kd.R_drew));exact Kd.R_mono HO_5.out (fun _ hk => (by simp [Value.ownBlock]))⟩,⟨by (with_reducible repeat (first | refine blk_drewN ?_ _ | refine blk_drew ?_ | refine blk_alloc ?_ _));exact BK158.out⟩,⟨by repeat (first | (with_reducible first | exact HB.out | apply below_alloc | apply pw_below_drewN | apply below_drew1 | refine below_set ?_ GE158.out) | exact HB.out)⟩⟩
   case round =>
    clear H'
    try clear c1
    try clear p2
    try clear c5
    try clear c7
    try clear hcz5_0
    try clear hfz5_0
    try clear p2
    obtain ⟨x6_2,x16_2,rfl,HA,HK2,HO_5,HO_6,HO_14,BK158,HB⟩:=hrel
    cases gk with
    | zero => exact absurd HA.out (by simp [spec_l7Cyclic.l1])
    | succ k2 =>
     have H:=HA.out
     clear HA
     simp only [spec_l7Cyclic.l1] at H
     by_cases c8 : x16_2 < (x5_1.length : Int)
     ·rw [if_pos c8] at H
      have c8b0 : decide (x16_2 < (x5_1.length : Int)) = true:=decide_eq_true c8
      clear c8
      by_cases c9 : 0 ≤ x16_2
      ·rw [if_pos c9] at H
       have c9b0 : decide (0 ≤ x16_2) = true:=decide_eq_true c9
       clear c9
       by_cases c10 : x16_2 < (x5_1.length : Int)
       ·rw [if_pos c10] at H
        have c10b0 : decide (x16_2 < (x5_1.length : Int)) = true:=decide_eq_true c10
        clear c10
        by_cases c11 : 0 ≤ (rd x5_1 x16_2)
        ·rw [if_pos c11] at H
         have c11b0 : decide (0 ≤ (rd x5_1 x16_2)) = true:=decide_eq_true c11
         clear c11
         by_cases c12 : (rd x5_1 x16_2) < (l0_0.length : Int)
         ·rw [if_pos c12] at H
          have c12b0 : decide ((rd x5_1 x16_2) < (l0_0.length : Int)) = true:=decide_eq_true c12
          clear c12
          have H':=Aside0.mk H
          clear H
          have p162 : 0 ≤ (x16_2 : Int):=of_decide_eq_true (by first | (with_reducible assumption) | assumption)
          have q162 : x16_2 < (x5_1.length : Int):=of_decide_eq_true (by first | (with_reducible assumption) | assumption)
          obtain ⟨ad162,e162,hx162_0⟩:=Kd.at_int (Kd.R_reads' HO_14.out).2.2 x16_2 p162 q162
          cases e162
          replace p162:=eq_true p162
          replace q162:=eq_true q162
          have hcz13_0 : wr.cell? ⟨gb158,0,none⟩ = some (.slice A0_0 l0_0.length c0_0):=(blk_cell BK158.out 0).trans rfl
          have hfz13_0:=blk_frozen BK158.out 0
          have p163 : 0 ≤ ((rd x5_1 x16_2) : Int):=of_decide_eq_true (by first | (with_reducible assumption) | assumption)
          have q163 : (rd x5_1 x16_2) < (l0_0.length : Int):=of_decide_eq_true (by first | (with_reducible assumption) | assumption)
          obtain ⟨ad163,A163_0,c163_0,e163,hx163_0,hl163_0,hi163_0⟩:=at_L1 HR0_0.out (rd x5_1 x16_2) p163 q163
          cases e163
          replace hx163_0:=(HB.out.cell (World.block_lt_of_cell? w _ hx163_0)).trans hx163_0
          have HR163_0:=Aside0.mk hi163_0
          have HC163_0:=Aside0.mk hl163_0
          clear hi163_0 hl163_0
          replace p163:=eq_true p163
          replace q163:=eq_true q163
          go_wp2
          go_loopg [9,26] k2 (fun kq v9 v26 w' => ∃ (x9_3 : Bool) (x26_3 : Int),v9 = .bool x9_3 ∧ v26 = .int .i64 x26_3 ∧ Aside0 (spec_l7Cyclic.l2 kq l1 x5_1 x6_2 (rd x5_1 x16_2) x9_3 x5_1 (x5_1.length : Int) x16_2 (rd_L1 l0_0 (rd x5_1 x16_2)) ((rd_L1 l0_0 (rd x5_1 x16_2)).length : Int) x26_3 l0_0 = some r) ∧ Aside0 (kq ≤ k2) ∧ Aside0 (Kd.R (Kd.int .i64) 3 w' w.heap.size (fun k_ => some k_ ≠ (u6 : Value).ownBlock) (.slice (some ad162) x5_1.length co7) x5_1) ∧ Aside0 (Kd.R (Kd.int .i64) 3 w' w.heap.size (fun k_ => some k_ ≠ ((.slice (some ad162) x5_1.length co7) : Value).ownBlock ∧ some k_ ≠ ((.slice (some ad162) x5_1.length co7) : Value).ownBlock) u6 x6_2) ∧ Aside0 (Kd.R (Kd.int .i64) 3 w' w.heap.size (fun k_ => some k_ ≠ (u6 : Value).ownBlock) (.slice (some ad162) x5_1.length co7) x5_1) ∧ Aside0 (w'.heap[gb158]? = some (.cells #[(.slice (some ad163) l0_0.length c0_0)] 28 (0,0))) ∧ Aside0 (Below w.heap.size w w'))
          case atStart => exact ⟨(false),(0),(by first | rfl | (simp;done) | (simp [*];done)),(by first | rfl | (simp;done) | (simp [*];done)),H',⟨Nat.le_refl _⟩,⟨by (with_reducible repeat (first | apply Kd.R_alloc | apply Kd.R_drewN | apply Kd.R_drew));exact HO_5.out⟩,⟨by (with_reducible repeat (first | apply Kd.R_alloc | apply Kd.R_drewN | apply Kd.R_drew));exact HO_6.out⟩,⟨by (with_reducible repeat (first | apply Kd.R_alloc | apply Kd.R_drewN | apply Kd.R_drew));exact HO_14.out⟩,⟨by (with_reducible repeat (first | refine blk_drewN ?_ _ | refine blk_drew ?_ | refine blk_alloc ?_ _));exact BK158.out⟩,⟨by repeat (first | (with_reducible first | exact HB.out | apply below_alloc | apply pw_below_drewN | apply below_drew1 | refine below_set ?_ GE158.out) | exact HB.out)⟩⟩
          case round =>
           clear H'
           try clear c1
           try clear p1
           try clear q1
           try clear hx1
           try clear p2
           try clear c5
           try clear c7
           try clear c8
           try clear c8b0
           try clear c9
           try clear c9b0
           try clear c10
           try clear c10b0
           try clear c11
           try clear c11b0
           try clear c12
           try clear c12b0
           try clear hcz13_0
           try clear hcz5_0
           try clear hfz13_0
           try clear hfz5_0
           try clear hx162_0
           try clear hx163_0
           try clear p162
           try clear p163
           try clear p2
           try clear q162
           try clear q163
           obtain ⟨x9_3,x26_3,rfl,rfl,HA,HK3,HO_5,HO_6,HO_14,BK158,HB⟩:=hrel
           cases gk with
           | zero => exact absurd HA.out (by simp [spec_l7Cyclic.l2])
           | succ k3 =>
            have H:=HA.out
            clear HA
            simp only [spec_l7Cyclic.l2] at H
            by_cases c14 : x26_3 < ((rd_L1 l0_0 (rd x5_1 x16_2)).length : Int)
            ·rw [if_pos c14] at H
             have c14b0 : decide (x26_3 < ((rd_L1 l0_0 (rd x5_1 x16_2)).length : Int)) = true:=decide_eq_true c14
             clear c14
             by_cases c15 : 0 ≤ x26_3
             ·rw [if_pos c15] at H
              have c15b0 : decide (0 ≤ x26_3) = true:=decide_eq_true c15
              clear c15
              by_cases c16 : x26_3 < ((rd_L1 l0_0 (rd x5_1 x16_2)).length : Int)
              ·rw [if_pos c16] at H
               have c16b0 : decide (x26_3 < ((rd_L1 l0_0 (rd x5_1 x16_2)).length : Int)) = true:=decide_eq_true c16
               clear c16
               by_cases c17 : x9_3 = true
               ·subst c17
                have H1 : (spec_l7Cyclic.l2 k3 l1 x5_1 x6_2 (rd x5_1 x16_2) true x5_1 (x5_1.length : Int) x16_2 (rd_L1 l0_0 (rd x5_1 x16_2)) ((rd_L1 l0_0 (rd x5_1 x16_2)).length : Int) (wrap64 (x26_3 + 1)) l0_0) = some r:=by rw [if_pos rfl] at H;exact H
                clear H
                have H:=H1
                clear H1
                have H':=Aside0.mk H
                clear H
                have p164 : 0 ≤ (x26_3 : Int):=of_decide_eq_true (by first | (with_reducible assumption) | assumption)
                have q164 : x26_3 < ((rd_L1 l0_0 (rd x5_1 x16_2)).length : Int):=of_decide_eq_true (by first | (with_reducible assumption) | assumption)
                obtain ⟨ad164,e164,hx164_0⟩:=Kd.at_int HR163_0.out x26_3 p164 q164
                cases e164
                replace hx164_0:=(HB.out.cell (World.block_lt_of_cell? w _ hx164_0)).trans hx164_0
                replace p164:=eq_true p164
                replace q164:=eq_true q164
                go_wp2
                go_roundg k3
                case measure => have:=HK1.out;have:=HK2.out;have:=HK3.out;omega
                case rel => exact ⟨(true),(wrap64 (x26_3 + 1)),(by first | rfl | (simp;done) | (simp [*];done)),(by first | rfl | (simp;done) | (simp [*];done)),H',⟨by have:=HK1.out;have:=HK2.out;have:=HK3.out;omega⟩,⟨by (with_reducible repeat (first | apply Kd.R_alloc | apply Kd.R_drewN | apply Kd.R_drew));exact HO_5.out⟩,⟨by (with_reducible repeat (first | apply Kd.R_alloc | apply Kd.R_drewN | apply Kd.R_drew));exact HO_6.out⟩,⟨by (with_reducible repeat (first | apply Kd.R_alloc | apply Kd.R_drewN | apply Kd.R_drew));exact HO_14.out⟩,⟨by (with_reducible repeat (first | refine blk_drewN ?_ _ | refine blk_drew ?_ | refine blk_alloc ?_ _));exact BK158.out⟩,⟨by repeat (first | (with_reducible first | exact HB.out | apply below_alloc | apply pw_below_drewN | apply below_drew1 | refine below_set ?_ GE158.out) | exact HB.out)⟩⟩
               ·replace c17:=Bool.eq_false_iff.mpr c17
                subst c17
                have H1 : ((spec_l1Has.f k3 x5_1 (rd (rd_L1 l0_0 (rd x5_1 x16_2)) x26_3)).bind fun t165 => (if t165 = true then (if 0 ≤ (rd x5_1 x16_2) then (if (rd x5_1 x16_2) < (l1.length : Int) then ((spec_l1Has.f k3 (rd_L1 l1 (rd x5_1 x16_2)) (rd (rd_L1 l0_0 (rd x5_1 x16_2)) x26_3)).bind fun t167 => (spec_l7Cyclic.l2 k3 l1 x5_1 x6_2 (rd x5_1 x16_2) (!t167) x5_1 (x5_1.length : Int) x16_2 (rd_L1 l0_0 (rd x5_1 x16_2)) ((rd_L1 l0_0 (rd x5_1 x16_2)).length : Int) (wrap64 (x26_3 + 1)) l0_0)) else (none)) else (none)) else (spec_l7Cyclic.l2 k3 l1 x5_1 x6_2 (rd x5_1 x16_2) false x5_1 (x5_1.length : Int) x16_2 (rd_L1 l0_0 (rd x5_1 x16_2)) ((rd_L1 l0_0 (rd x5_1 x16_2)).length : Int) (wrap64 (x26_3 + 1)) l0_0))) = some r:=by rw [if_neg (show ¬ (false = true) by decide)] at H;exact H
                clear H
                have H:=H1
                clear H1
                replace H:=Option.bind_eq_some_iff.mp H
                obtain ⟨t165,A180,H⟩:=H
                replace H : (if t165 = true then (if 0 ≤ (rd x5_1 x16_2) then (if (rd x5_1 x16_2) < (l1.length : Int) then ((spec_l1Has.f k3 (rd_L1 l1 (rd x5_1 x16_2)) (rd (rd_L1 l0_0 (rd x5_1 x16_2)) x26_3)).bind fun t167 => (spec_l7Cyclic.l2 k3 l1 x5_1 x6_2 (rd x5_1 x16_2) (!t167) x5_1 (x5_1.length : Int) x16_2 (rd_L1 l0_0 (rd x5_1 x16_2)) ((rd_L1 l0_0 (rd x5_1 x16_2)).length : Int) (wrap64 (x26_3 + 1)) l0_0)) else (none)) else (none)) else (spec_l7Cyclic.l2 k3 l1 x5_1 x6_2 (rd x5_1 x16_2) false x5_1 (x5_1.length : Int) x16_2 (rd_L1 l0_0 (rd x5_1 x16_2)) ((rd_L1 l0_0 (rd x5_1 x16_2)).length : Int) (wrap64 (x26_3 + 1)) l0_0)) = some r:=H
                have A18:=Aside0.mk A180
                clear A180
                by_cases c19 : t165 = true
                ·subst c19
                 have H1 : (if 0 ≤ (rd x5_1 x16_2) then (if (rd x5_1 x16_2) < (l1.length : Int) then ((spec_l1Has.f k3 (rd_L1 l1 (rd x5_1 x16_2)) (rd (rd_L1 l0_0 (rd x5_1 x16_2)) x26_3)).bind fun t167 => (spec_l7Cyclic.l2 k3 l1 x5_1 x6_2 (rd x5_1 x16_2) (!t167) x5_1 (x5_1.length : Int) x16_2 (rd_L1 l0_0 (rd x5_1 x16_2)) ((rd_L1 l0_0 (rd x5_1 x16_2)).length : Int) (wrap64 (x26_3 + 1)) l0_0)) else (none)) else (none)) = some r:=by rw [if_pos rfl] at H;exact H
                 clear H
                 have H:=H1
                 clear H1
                 by_cases c20 : 0 ≤ (rd x5_1 x16_2)
                 ·rw [if_pos c20] at H
                  have c20b0 : decide (0 ≤ (rd x5_1 x16_2)) = true:=decide_eq_true c20
                  clear c20
                  by_cases c21 : (rd x5_1 x16_2) < (l1.length : Int)
                  ·rw [if_pos c21] at H
                   have c21b0 : decide ((rd x5_1 x16_2) < (l1.length : Int)) = true:=decide_eq_true c21
                   clear c21
                   replace H:=Option.bind_eq_some_iff.mp H
                   obtain ⟨t167,A220,H⟩:=H
                   replace H : (spec_l7Cyclic.l2 k3 l1 x5_1 x6_2 (rd x5_1 x16_2) (!t167) x5_1 (x5_1.length : Int) x16_2 (rd_L1 l0_0 (rd x5_1 x16_2)) ((rd_L1 l0_0 (rd x5_1 x16_2)).length : Int) (wrap64 (x26_3 + 1)) l0_0) = some r:=H
                   have A22:=Aside0.mk A220
                   clear A220
                   have H':=Aside0.mk H
                   clear H
                   have p164 : 0 ≤ (x26_3 : Int):=of_decide_eq_true (by first | (with_reducible assumption) | assumption)
                   have q164 : x26_3 < ((rd_L1 l0_0 (rd x5_1 x16_2)).length : Int):=of_decide_eq_true (by first | (with_reducible assumption) | assumption)
                   obtain ⟨ad164,e164,hx164_0⟩:=Kd.at_int HR163_0.out x26_3 p164 q164
                   cases e164
                   replace hx164_0:=(HB.out.cell (World.block_lt_of_cell? w _ hx164_0)).trans hx164_0
                   replace p164:=eq_true p164
                   replace q164:=eq_true q164
                   go_wp2_with (first | (go_at_call 45;(with_reducible refine (spec_l1Has.calls k3 _ _ x5_1 (rd (rd_L1 l0_0 (rd x5_1 x16_2)) x26_3) true _ ?side1 ?side2 A18.out).mono ?_);(case side1 => repeat (first | exact (Kd.R_reads' HO_5.out).2.2 | (with_reducible refine Kd.C_alloc ?_ _) | (with_reducible refine Kd.C_drewN ?_ _) | (with_reducible refine Kd.C_drew ?_)));(case side2 => exact (Kd.R_reads' HO_5.out).2.1);rintro e w' ⟨rfl,⟨nd,rfl⟩⟩;have p166 : 0 ≤ ((rd x5_1 x16_2) : Int):=of_decide_eq_true (by first | (with_reducible assumption) | assumption);have q166 : (rd x5_1 x16_2) < (l1.length : Int):=of_decide_eq_true (by first | (with_reducible assumption) | assumption);obtain ⟨ad166,A166_0,c166_0,e166,hx166_0,hl166_0,hi166_0⟩:=at_L1 HR1.out (rd x5_1 x16_2) p166 q166;cases e166;replace hx166_0:=(HB.out.cell (World.block_lt_of_cell? w _ hx166_0)).trans hx166_0;have HR166_0:=Aside0.mk hi166_0;have HC166_0:=Aside0.mk hl166_0;clear hi166_0 hl166_0;replace p166:=eq_true p166;replace q166:=eq_true q166) | (go_at_call 45;(with_reducible refine (spec_l1Has.calls k3 _ _ (rd_L1 l1 (rd x5_1 x16_2)) (rd (rd_L1 l0_0 (rd x5_1 x16_2)) x26_3) t167 _ ?side1 ?side2 A22.out).mono ?_);(case side1 => repeat (first | exact (Kd.C_below HR166_0.out (by repeat (first | (with_reducible first | exact HB.out | apply below_alloc | apply pw_below_drewN | apply below_drew1 | refine below_set ?_ GE158.out) | exact HB.out))) | (with_reducible refine Kd.C_alloc ?_ _) | (with_reducible refine Kd.C_drewN ?_ _) | (with_reducible refine Kd.C_drew ?_)));(case side2 => exact HC166_0.out);rintro e w' ⟨rfl,⟨nd,rfl⟩⟩))
                   go_roundg k3
                   case measure => have:=HK1.out;have:=HK2.out;have:=HK3.out;omega
                   case rel => exact ⟨(!t167),(wrap64 (x26_3 + 1)),(by first | rfl | (simp;done) | (simp [*];done)),(by first | rfl | (simp;done) | (simp [*];done)),H',⟨by have:=HK1.out;have:=HK2.out;have:=HK3.out;omega⟩,⟨by (with_reducible repeat (first | apply Kd.R_alloc | apply Kd.R_drewN | apply Kd.R_drew));exact HO_5.out⟩,⟨by (with_reducible repeat (first | apply Kd.R_alloc | apply Kd.R_drewN | apply Kd.R_drew));exact HO_6.out⟩,⟨by (with_reducible repeat (first | apply Kd.R_alloc | apply Kd.R_drewN | apply Kd.R_drew));exact HO_14.out⟩,⟨by (with_reducible repeat (first | refine blk_drewN ?_ _ | refine blk_drew ?_ | refine blk_alloc ?_ _));exact BK158.out⟩,⟨by repeat (first | (with_reducible first | exact HB.out | apply below_alloc | apply pw_below_drewN | apply below_drew1 | refine below_set ?_ GE158.out) | exact HB.out)⟩⟩
                  ·rw [if_neg c21] at H
                   exact absurd H (by simp)
                 ·rw [if_neg c20] at H
                  exact absurd H (by simp)
                ·replace c19:=Bool.eq_false_iff.mpr c19
                 subst c19
                 have H1 : (spec_l7Cyclic.l2 k3 l1 x5_1 x6_2 (rd x5_1 x16_2) false x5_1 (x5_1.length : Int) x16_2 (rd_L1 l0_0 (rd x5_1 x16_2)) ((rd_L1 l0_0 (rd x5_1 x16_2)).length : Int) (wrap64 (x26_3 + 1)) l0_0) = some r:=by rw [if_neg (show ¬ (false = true) by decide)] at H;exact H
                 clear H
                 have H:=H1
                 clear H1
                 have H':=Aside0.mk H
                 clear H
                 have p164 : 0 ≤ (x26_3 : Int):=of_decide_eq_true (by first | (with_reducible assumption) | assumption)
                 have q164 : x26_3 < ((rd_L1 l0_0 (rd x5_1 x16_2)).length : Int):=of_decide_eq_true (by first | (with_reducible assumption) | assumption)
                 obtain ⟨ad164,e164,hx164_0⟩:=Kd.at_int HR163_0.out x26_3 p164 q164
                 cases e164
                 replace hx164_0:=(HB.out.cell (World.block_lt_of_cell? w _ hx164_0)).trans hx164_0
                 replace p164:=eq_true p164
                 replace q164:=eq_true q164
                 go_wp2_with (first | (go_at_call 45;(with_reducible refine (spec_l1Has.calls k3 _ _ x5_1 (rd (rd_L1 l0_0 (rd x5_1 x16_2)) x26_3) false _ ?side1 ?side2 A18.out).mono ?_);(case side1 => repeat (first | exact (Kd.R_reads' HO_5.out).2.2 | (with_reducible refine Kd.C_alloc ?_ _) | (with_reducible refine Kd.C_drewN ?_ _) | (with_reducible refine Kd.C_drew ?_)));(case side2 => exact (Kd.R_reads' HO_5.out).2.1);rintro e w' ⟨rfl,⟨nd,rfl⟩⟩))
                 go_roundg k3
                 case measure => have:=HK1.out;have:=HK2.out;have:=HK3.out;omega
                 case rel => exact ⟨(false),(wrap64 (x26_3 + 1)),(by first | rfl | (simp;done) | (simp [*];done)),(by first | rfl | (simp;done) | (simp [*];done)),H',⟨by have:=HK1.out;have:=HK2.out;have:=HK3.out;omega⟩,⟨by (with_reducible repeat (first | apply Kd.R_alloc | apply Kd.R_drewN | apply Kd.R_drew));exact HO_5.out⟩,⟨by (with_reducible repeat (first | apply Kd.R_alloc | apply Kd.R_drewN | apply Kd.R_drew));exact HO_6.out⟩,⟨by (with_reducible repeat (first | apply Kd.R_alloc | apply Kd.R_drewN | apply Kd.R_drew));exact HO_14.out⟩,⟨by (with_reducible repeat (first | refine blk_drewN ?_ _ | refine blk_drew ?_ | refine blk_alloc ?_ _));exact BK158.out⟩,⟨by repeat (first | (with_reducible first | exact HB.out | apply below_alloc | apply pw_below_drewN | apply below_drew1 | refine below_set ?_ GE158.out) | exact HB.out)⟩⟩
              ·rw [if_neg c16] at H
               exact absurd H (by simp)
             ·rw [if_neg c15] at H
              exact absurd H (by simp)
            ·rw [if_neg c14] at H
             have c14b0 : decide (x26_3 < ((rd_L1 l0_0 (rd x5_1 x16_2)).length : Int)) = false:=decide_eq_false c14
             clear c14
             by_cases c23 : x9_3 = true
             ·subst c23
              have H1 : (if x6_2.length < 17592186044416 then (spec_l7Cyclic.l1 k3 l1 x5_1 (x6_2 ++ [(rd x5_1 x16_2)]) x5_1 (x5_1.length : Int) (wrap64 (x16_2 + 1)) l0_0) else (none)) = some r:=by rw [if_pos rfl] at H;exact H
              clear H
              have H:=H1
              clear H1
              by_cases c24 : x6_2.length < 17592186044416
              ·rw [if_pos c24] at H
               have LMc24:=Aside0.mk c24
               clear c24
               obtain ⟨y168,hy168⟩ : ∃ y_ : List Int,y_ = (x6_2 ++ [(rd x5_1 x16_2)]):=⟨_,rfl⟩
               replace H : (spec_l7Cyclic.l1 k3 l1 x5_1 y168 x5_1 (x5_1.length : Int) (wrap64 (x16_2 + 1)) l0_0) = some r:=by first | (rw [hy168];with_reducible exact H) | (have H2_:=(Option.bind_some _ _).symm.trans H;rw [hy168];with_reducible exact H2_) | (have H2_:=(Option.bind_some _ _).symm.trans H;with_reducible exact H2_) | with_reducible exact H | (rw [hy168];exact H) | exact H
               have Ny168:=Aside0.mk hy168
               clear hy168
               have H':=Aside0.mk H
               clear H
               go_wp2_with (first | ((with_reducible refine gate_builtin (b:=.append) (xs:=#[.tmp 47,.tmp 49]) rfl ?_);at_builtin;refine Kd.R_append (Kd.int .i64) (w0:=w) w.heap.size rfl (.tmp 47) (.tmp 49) 43 3 (.int .i64 0) 8 rfl Try.underlying43 info3 rfl (by decide) (by omega) u6 x6_2 (rd x5_1 x16_2) [.int .i64 (rd x5_1 x16_2)] (fun k_ => some k_ ≠ (.slice (some ad162) x5_1.length co7 : Value).ownBlock ∧ some k_ ≠ (.slice (some ad162) x5_1.length co7 : Value).ownBlock) (fun _ => False) rfl rfl ?aP (fun _ hk => hk.elim) ?aF ?aO ?aB ?aS ?aL ?_;(case aP => exact rfl);(case aB => exact (by repeat (first | (with_reducible first | exact HB.out | apply below_alloc | apply pw_below_drewN | apply below_drew1 | refine below_set ?_ GE158.out) | exact HB.out)));(case aF => exact (fun k_ hk => ⟨Kd.fresh' (Kd.R_lt (by (with_reducible repeat (first | apply Kd.R_alloc | apply Kd.R_drewN | apply Kd.R_drew));exact HO_5.out)) k_ hk,Kd.fresh' (Kd.R_lt (by (with_reducible repeat (first | apply Kd.R_alloc | apply Kd.R_drewN | apply Kd.R_drew));exact HO_14.out)) k_ hk⟩));(case aO => exact (by (with_reducible repeat (first | apply Kd.R_alloc | apply Kd.R_drewN | apply Kd.R_drew));exact HO_6.out));(case aS => exact (below_size (by repeat (first | (with_reducible first | exact HB.out | apply below_alloc | apply pw_below_drewN | apply below_drew1 | refine below_set ?_ GE158.out) | exact HB.out))));(case aL => have:=LMc24.out;omega);intro v169 w25 ho hb hg hat;rw [← Ny168.out] at ho;have n0_:=Aside0.mk (Kd.R_after (ok:=(fun _ => True)) (by (with_reducible repeat (first | apply Kd.R_alloc | apply Kd.R_drewN | apply Kd.R_drew));exact Kd.R_mono HO_5.out (fun _ hk => ⟨trivial,hk⟩)) hg hat);have n1_:=Aside0.mk (Kd.R_after (ok:=(fun _ => True)) (by (with_reducible repeat (first | apply Kd.R_alloc | apply Kd.R_drewN | apply Kd.R_drew));exact Kd.R_mono HO_14.out (fun _ hk => ⟨trivial,hk⟩)) hg hat);have n2_:=Aside0.mk (blk_grown (g:=gb158) (o:=.cells #[.slice (some ad163) l0_0.length c0_0] 28 (0,0)) (by (with_reducible repeat (first | refine blk_drewN ?_ _ | refine blk_drew ?_ | refine blk_alloc ?_ _));exact BK158.out) hg (Kd.R_ne HO_6.out BK158.out (by decide)));have n3_:=Aside0.mk (hb);have n4_:=Aside0.mk (ho);clear HO_5;clear HO_14;clear BK158;clear HB;clear HO_6;have HO_5:=n0_;have HO_14:=n1_;have BK158:=n2_;have HB:=n3_;have HO170:=n4_;clear n0_ n1_ n2_ n3_ n4_;clear ho hb hg hat))
               go_roundg k3
               case measure => have:=HK1.out;have:=HK2.out;have:=HK3.out;omega
               case rel => exact ⟨(y168),(wrap64 (x16_2 + 1)),(by first | rfl | (simp;done) | (simp [*];done)),H',⟨by have:=HK1.out;have:=HK2.out;have:=HK3.out;omega⟩,⟨by (with_reducible repeat (first | apply Kd.R_alloc | apply Kd.R_drewN | apply Kd.R_drew));exact Kd.R_mono HO_5.out (fun _ hk => hk.2)⟩,⟨by (with_reducible repeat (first | apply Kd.R_alloc | apply Kd.R_drewN | apply Kd.R_drew));exact HO170.out⟩,⟨by (with_reducible repeat (first | apply Kd.R_alloc | apply Kd.R_drewN | apply Kd.R_drew));exact Kd.R_mono HO_14.out (fun _ hk => hk.2)⟩,⟨by (with_reducible repeat (first | refine blk_drewN ?_ _ | refine blk_drew ?_ | refine blk_alloc ?_ _));exact BK158.out⟩,⟨by repeat (first | (with_reducible first | exact HB.out | apply below_alloc | apply pw_below_drewN | apply below_drew1 | refine below_set ?_ GE158.out) | exact HB.out)⟩⟩
              ·rw [if_neg c24] at H
               exact absurd H (by simp)
             ·replace c23:=Bool.eq_false_iff.mpr c23
              subst c23
              have H1 : (spec_l7Cyclic.l1 k3 l1 x5_1 x6_2 x5_1 (x5_1.length : Int) (wrap64 (x16_2 + 1)) l0_0) = some r:=by rw [if_neg (show ¬ (false = true) by decide)] at H;exact H
              clear H
              have H:=H1
              clear H1
              have H':=Aside0.mk H
              clear H
              go_wp2
              go_roundg k3
              case measure => have:=HK1.out;have:=HK2.out;have:=HK3.out;omega
              case rel => exact ⟨(x6_2),(wrap64 (x16_2 + 1)),(by first | rfl | (simp;done) | (simp [*];done)),H',⟨by have:=HK1.out;have:=HK2.out;have:=HK3.out;omega⟩,⟨by (with_reducible repeat (first | apply Kd.R_alloc | apply Kd.R_drewN | apply Kd.R_drew));exact HO_5.out⟩,⟨by (with_reducible repeat (first | apply Kd.R_alloc | apply Kd.R_drewN | apply Kd.R_drew));exact HO_6.out⟩,⟨by (with_reducible repeat (first | apply Kd.R_alloc | apply Kd.R_drewN | apply Kd.R_drew));exact HO_14.out⟩,⟨by (with_reducible repeat (first | refine blk_drewN ?_ _ | refine blk_drew ?_ | refine blk_alloc ?_ _));exact BK158.out⟩,⟨by repeat (first | (with_reducible first | exact HB.out | apply below_alloc | apply pw_below_drewN | apply below_drew1 | refine below_set ?_ GE158.out) | exact HB.out)⟩⟩
         ·rw [if_neg c12] at H
          exact absurd H (by simp)
        ·rw [if_neg c11] at H
         exact absurd H (by simp)
       ·rw [if_neg c10] at H
        exact absurd H (by simp)
      ·rw [if_neg c9] at H
       exact absurd H (by simp)
     ·rw [if_neg c8] at H
      have c8b0 : decide (x16_2 < (x5_1.length : Int)) = false:=decide_eq_false c8
      clear c8
      by_cases c26 : (x6_2.length : Int) = (x5_1.length : Int)
      ·rw [if_pos c26] at H
       have c26b0 : ((x6_2.length : Int) == (x5_1.length : Int)) = true:=beq_iff_eq.mpr c26
       have c26b1 : ((x6_2.length : Int) != (x5_1.length : Int)) = false:=bne_eq_false_iff_eq.mpr c26
       have c26b2 : (x6_2.length == x5_1.length) = true:=by first | simpa using c26 | (simp at c26 ⊢;omega)
       clear c26
       obtain rfl:=Option.some.inj H
       obtain ⟨Ao27,co27,eo27⟩:=Kd.R_slice HO_6.out
       subst eo27
       go_wp2
       go_ret
       exact ⟨by first | rfl | (simp [errW_none,errW_some] <;> rfl) | (simp [*,errW_none,errW_some] <;> rfl),by repeat (first | (with_reducible first | exact HB.out | apply below_alloc | apply pw_below_drewN | apply below_drew1 | refine below_set ?_ GE158.out) | exact HB.out)⟩
      ·rw [if_neg c26] at H
       have c26b0 : ((x6_2.length : Int) == (x5_1.length : Int)) = false:=beq_eq_false_iff_ne.mpr c26
       have c26b1 : ((x6_2.length : Int) != (x5_1.length : Int)) = true:=bne_iff_ne.mpr c26
       have c26b2 : (x6_2.length == x5_1.length) = false:=by first | simpa using c26 | (simp at c26 ⊢;omega)
       have H':=Aside0.mk H
       clear H
       obtain ⟨Ao28,co28,eo28⟩:=Kd.R_slice HO_6.out
       subst eo28
       go_wp2
       go_roundg k2
       case measure => have:=HK1.out;have:=HK2.out;omega
       case rel => exact ⟨(x6_2),H',⟨by have:=HK1.out;have:=HK2.out;omega⟩,⟨by (with_reducible repeat (first | apply Kd.R_alloc | apply Kd.R_drewN | apply Kd.R_drew));exact Kd.R_mono HO_6.out (fun _ hk => trivial)⟩,⟨by (with_reducible repeat (first | refine blk_drewN ?_ _ | refine blk_drew ?_ | refine blk_alloc ?_ _));exact BK158.out⟩,⟨by repeat (first | (with_reducible first | exact HB.out | apply below_alloc | apply pw_below_drewN | apply below_drew1 | refine below_set ?_ GE158.out) | exact HB.out)⟩⟩

end Go.Proofs.Ytbmnoenbhlfjaaa.Q
