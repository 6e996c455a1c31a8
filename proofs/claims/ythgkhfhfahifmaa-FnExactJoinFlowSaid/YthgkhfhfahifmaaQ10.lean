-- WRITTEN BY A PROGRAM OF THIS SESSION
import Derived.Test.YthgkhfhfahifmaaQ0
import Derived.Test.YthgkhfhfahifmaaQ7
import Derived.Test.YthgkhfhfahifmaaQ8
import Derived.Test.YthgkhfhfahifmaaQ9
namespace Go.Proofs.Ythgkhfhfahifmaa.Q
open Go.RowKit Go.Proofs.YthgkhfhfahifmaaW.PrintWords Go.Proofs.YthgkhfhfahifmaaW.PrintLast Go.Proofs.YthgkhfhfahifmaaW.PrintMore
attribute [local go_sem] max2_int min2_int max_two min_two max_three min_three max_four min_four   -- for this text's walks alone
set_option linter.unusedVariables false
set_option linter.unusedSimpArgs false

/-! ### spec_l6Join: function 57 (by hand: blocks with rows of their own, laid out and written) -/
mutual
def spec_l6Join.l0 : Nat → List S56 → List S56 → Int → Option (List S56)
 | 0,_,_,_ => none
 | k + 1,f,own,i => if i < (f.length : Int) then (if 0 ≤ i then ((spec_l6Own.f (rd_T56 f i).f0 (rd_T56 f i).f1 (rd_T56 f i).f2 (rd_T56 f i).f3).bind fun o => (if own.length < 2199023255551 then (spec_l6Join.l0 k f (own ++ [⟨o.1,o.2.1,o.2.2.1,o.2.2.2⟩]) (wrap64 (i + 1))) else none)) else none) else (spec_l6Join.l1 k own true)
def spec_l6Join.l1 : Nat → List S56 → Bool → Option (List S56)
 | 0,_,_ => none
 | k + 1,own,ag => if ag = true then ((spec_l6Preds.f k own).bind fun pr => (spec_l6Reach.f k own).bind fun rs => (spec_l6Join.l2 k own pr rs 0)) else ((spec_l6Trim.f k own).bind fun r => some r.1)
def spec_l6Join.l2 : Nat → List S56 → List (List Int) → List Int → Int → Option (List S56)
 | 0,_,_,_,_ => none
 | k + 1,fs,pr,ls,i => if i < (ls.length : Int) then (if 0 ≤ i then (if 0 ≤ rd ls i then (if rd ls i < (fs.length : Int) then (if (rd_T56 fs (rd ls i)).f1 = 1 then (if 0 < (rd_T56 fs (rd ls i)).f3.length then (if rd (rd_T56 fs (rd ls i)).f3 0 = 0 then (spec_l6Join.l2 k fs pr ls (wrap64 (i + 1))) else (if rd (rd_T56 fs (rd ls i)).f3 0 = rd ls i then (spec_l6Join.l2 k fs pr ls (wrap64 (i + 1))) else (if 0 ≤ rd (rd_T56 fs (rd ls i)).f3 0 then (if rd (rd_T56 fs (rd ls i)).f3 0 < (pr.length : Int) then (if ((pr.getD (rd (rd_T56 fs (rd ls i)).f3 0).toNat []).length : Int) = 1 then (if rd (rd_T56 fs (rd ls i)).f3 0 < (fs.length : Int) then (if 60 < wrap64 (((rd_T56 fs (rd ls i)).f0.length : Int) + ((rd_T56 fs (rd (rd_T56 fs (rd ls i)).f3 0)).f0.length : Int)) then (spec_l6Join.l2 k fs pr ls (wrap64 (i + 1))) else ((spec_l6Own.f (rd_T56 fs (rd (rd_T56 fs (rd ls i)).f3 0)).f0 (rd_T56 fs (rd (rd_T56 fs (rd ls i)).f3 0)).f1 (rd_T56 fs (rd (rd_T56 fs (rd ls i)).f3 0)).f2 (rd_T56 fs (rd (rd_T56 fs (rd ls i)).f3 0)).f3).bind fun o => (if (rd_T56 fs (rd ls i)).f0.length + (rd_T56 fs (rd (rd_T56 fs (rd ls i)).f3 0)).f0.length < 1000 then (spec_l6Join.l1 k (fs.set (rd ls i).toNat ⟨(rd_T56 fs (rd ls i)).f0 ++ (rd_T56 fs (rd (rd_T56 fs (rd ls i)).f3 0)).f0,o.2.1,o.2.2.1,o.2.2.2⟩) true) else none))) else none) else (spec_l6Join.l2 k fs pr ls (wrap64 (i + 1)))) else none) else none))) else none) else (spec_l6Join.l2 k fs pr ls (wrap64 (i + 1)))) else none) else none) else none) else spec_l6Join.l1 k fs false
end
def spec_l6Join.f (k : Nat) (l : List S56) : Option (List S56):=spec_l6Join.l0 k l [] 0
theorem spec_l6Join.mono_l : ∀ k,(∀ y0 y1 y2,LeO (spec_l6Join.l0 k y0 y1 y2) (spec_l6Join.l0 (k + 1) y0 y1 y2)) ∧ (∀ y0 y1,LeO (spec_l6Join.l1 k y0 y1) (spec_l6Join.l1 (k + 1) y0 y1)) ∧ (∀ y0 y1 y2 y3,LeO (spec_l6Join.l2 k y0 y1 y2 y3) (spec_l6Join.l2 (k + 1) y0 y1 y2 y3))
 | 0 => ⟨fun _ _ _ r h => by simp [spec_l6Join.l0] at h,fun _ _ r h => by simp [spec_l6Join.l1] at h,fun _ _ _ _ r h => by simp [spec_l6Join.l2] at h⟩
 | k + 1 => by
  obtain ⟨ih0,ih1,ih2⟩:=spec_l6Join.mono_l k
  refine ⟨?_,?_,?_⟩
  ·intro y0 y1 y2
   unfold spec_l6Join.l0
   repeat' first
   | (with_reducible exact ih0 _ _ _)
   | (with_reducible exact ih1 _ _)
   | (with_reducible exact ih2 _ _ _ _)
   | (with_reducible exact spec_l6Own.mono _ _ _ _ _)
   | (with_reducible exact spec_l6Preds.mono _ _)
   | (with_reducible exact spec_l6Reach.mono _ _)
   | (with_reducible exact spec_l6Trim.mono _ _)
   | (with_reducible exact LeO.refl _)
   | (with_reducible exact LeO.none _)
   | (with_reducible refine LeO.ite ?_ ?_)
   | (with_reducible refine LeO.bind ?_ (fun _ => ?_))
  ·intro y0 y1
   unfold spec_l6Join.l1
   repeat' first
   | (with_reducible exact ih0 _ _ _)
   | (with_reducible exact ih1 _ _)
   | (with_reducible exact ih2 _ _ _ _)
   | (with_reducible exact spec_l6Own.mono _ _ _ _ _)
   | (with_reducible exact spec_l6Preds.mono _ _)
   | (with_reducible exact spec_l6Reach.mono _ _)
   | (with_reducible exact spec_l6Trim.mono _ _)
   | (with_reducible exact LeO.refl _)
   | (with_reducible exact LeO.none _)
   | (with_reducible refine LeO.ite ?_ ?_)
   | (with_reducible refine LeO.bind ?_ (fun _ => ?_))
  ·intro y0 y1 y2 y3
   unfold spec_l6Join.l2
   repeat' first
   | (with_reducible exact ih0 _ _ _)
   | (with_reducible exact ih1 _ _)
   | (with_reducible exact ih2 _ _ _ _)
   | (with_reducible exact spec_l6Own.mono _ _ _ _ _)
   | (with_reducible exact spec_l6Preds.mono _ _)
   | (with_reducible exact spec_l6Reach.mono _ _)
   | (with_reducible exact spec_l6Trim.mono _ _)
   | (with_reducible exact LeO.refl _)
   | (with_reducible exact LeO.none _)
   | (with_reducible refine LeO.ite ?_ ?_)
   | (with_reducible refine LeO.bind ?_ (fun _ => ?_))
theorem spec_l6Join.mono : ∀ a0 k,LeO (spec_l6Join.f k a0) (spec_l6Join.f (k + 1) a0):=by
 intro a0 k
 obtain ⟨ih0,ih1,ih2⟩:=spec_l6Join.mono_l k
 unfold spec_l6Join.f
 repeat' first
   | (with_reducible exact ih0 _ _ _)
   | (with_reducible exact ih1 _ _)
   | (with_reducible exact ih2 _ _ _ _)
   | (with_reducible exact spec_l6Own.mono _ _ _ _ _)
   | (with_reducible exact spec_l6Preds.mono _ _)
   | (with_reducible exact spec_l6Reach.mono _ _)
   | (with_reducible exact spec_l6Trim.mono _ _)
   | (with_reducible exact LeO.refl _)
   | (with_reducible exact LeO.none _)
   | (with_reducible refine LeO.ite ?_ ?_)
   | (with_reducible refine LeO.bind ?_ (fun _ => ?_))
set_option maxHeartbeats 8000000 in
set_option maxRecDepth 100000 in
theorem spec_l6Join.calls (k : Nat) (A0 : Option Addr) (c0 : Nat) (l0 : List S56) (r : List S56) (w : World) (hr0 : Kd.C k56 w A0 l0.length l0) (hc0 : l0.length ≤ c0) (h : spec_l6Join.f k l0 = some r) :
  Calls Try.prog 57 #[.slice A0 l0.length c0] w fun e w' => ∃ v0_ : Value,e = .returned v0_ ∧ Kd.S k56 56 w' w.heap.size (fun _ => True) v0_ r ∧ Below w.heap.size w w':=by
 have hu56:=Try.underlying56
 have HR0:=Aside0.mk hr0
 have HC0:=Aside0.mk hc0
 unfold spec_l6Join.f at h
 have H':=Aside0.mk h
 have HB:=Aside0.mk (Below.refl w.heap.size w)
 have HS:=Aside0.mk (Kd.S_nil k56 56 w w.heap.size (fun _ => True))
 clear hr0 hc0 h
 go_enter Try.func57,Try.ntmps57
 go_wp2
 go_loopg [3,17] k (fun kq v3 v17 w' => ∃ (own : List S56) (i : Int),v17 = .int .i64 i ∧ Aside0 (spec_l6Join.l0 kq l0 own i = some r) ∧ Aside0 (kq ≤ k) ∧ Aside0 (Below w.heap.size w w') ∧ Aside0 (Kd.S k56 56 w' w.heap.size (fun _ => True) v3 own))
 case atStart => exact ⟨[],0,rfl,H',⟨Nat.le_refl _⟩,HB,HS⟩
 case round =>
  clear H' HB HS
  obtain ⟨own,i,rfl,HA,HK1,HB,HS⟩:=hrel
  cases gk with
  | zero => exact absurd HA.out (by simp [spec_l6Join.l0])
  | succ k1 =>
   have H:=HA.out
   clear HA
   simp only [spec_l6Join.l0] at H
   obtain ⟨Ao,co,rfl⟩:=Kd.S_slice HS.out
   by_cases c1 : i < (l0.length : Int)
   ·rw [if_pos c1] at H
    by_cases c2 : 0 ≤ i
    rotate_left
    ·rw [if_neg c2] at H;exact absurd H (by simp)
    rw [if_pos c2] at H
    obtain ⟨ad2,A0_,c0_,A3_,c3_,e2,hx00,hx10,hx20,hx30,hl0,hc0,hl3,hc3⟩:=at_T56 HR0.out i c2 c1
    cases e2
    obtain ⟨xs,hxs⟩ : ∃ xs,xs = rd_T56 l0 i:=⟨_,rfl⟩
    rw [← hxs] at H hx00 hx10 hx20 hx30 hl0 hc0 hl3 hc3
    have hxa:=pw_cell_below HB.out hx00
    have hxb:=pw_cell_below HB.out hx10
    have hxc:=pw_cell_below HB.out hx20
    have hxd:=pw_cell_below HB.out hx30
    have HL0_:=Aside0.mk hl0
    have HC0_:=Aside0.mk hc0
    have HL3_:=Aside0.mk hl3
    have HC3_:=Aside0.mk hc3
    obtain ⟨⟨code,go,tst,nx⟩,B1,H⟩:=Option.bind_eq_some_iff.mp H
    have B:=Aside0.mk B1
    dsimp only at H
    by_cases c3 : own.length < 2199023255551
    rotate_left
    ·rw [if_neg c3] at H;exact absurd H (by simp)
    rw [if_pos c3] at H
    have H':=Aside0.mk H
    have HLO:=Aside0.mk c3
    have c1b0 : decide (i < (l0.length : Int)) = true:=decide_eq_true c1
    have c2b0 : decide (0 ≤ i) = true:=decide_eq_true c2
    have p1:=eq_true c1
    have p2:=eq_true c2
    clear H B1 c1 c2 c3 hxs hx00 hx10 hx20 hx30 hl0 hc0 hl3 hc3
    have HLT:=Aside0.mk (show ∀ k_,(.slice Ao own.length co : Value).ownBlock = some k_ → k_ < wr.heap.size from Kd.R_lt (Kd.S_R HS.out))
    go_wp2_with (first | (go_at_call 80;(refine (spec_l6Own.calls A0_ c0_ xs.f0 xs.f1 xs.f2 A3_ c3_ xs.f3 code go tst nx _ (Kd.C_below HC0_.out (below_alloc HB.out _)) HL0_.out (Kd.C_below HC3_.out (below_alloc HB.out _)) HL3_.out B.out).mono ?_);rintro e w5 ⟨v0,v3,rfl,ho0,ho3,hb⟩;obtain ⟨Ac,cc,ec⟩:=Kd.R_slice ho0;obtain ⟨A3n,c3n,e3n⟩:=Kd.R_slice ho3;subst ec;subst e3n;have HB5:=Aside0.mk (below_step (below_alloc HB.out _) hb);have HX0:=Aside0.mk (Kd.R_mono (ok':=fun k_ => wr.heap.size ≤ k_) (Kd.R_bound ho0) (fun k_ h_ => Nat.le_trans (below_alloc (Below.refl wr.heap.size wr) _).size h_.2.1));have HX3:=Aside0.mk (Kd.R_mono (ok':=fun k_ => wr.heap.size ≤ k_) (Kd.R_bound ho3) (fun k_ h_ => Nat.le_trans (below_alloc (Below.refl wr.heap.size wr) _).size h_.2.1));have HZ0:=Aside0.mk (Kd.R_lower HX0.out (below_alloc HB.out _).size);have HZ3:=Aside0.mk (Kd.R_lower HX3.out (below_alloc HB.out _).size);have HS5:=Aside0.mk (Kd.S_below (Kd.S_alloc (Kd.S_mono (Kd.S_bound HS.out) (fun k_ h_ => (h_.2.2.1 : k_ < wr.heap.size))) _) hb);clear ho0 ho3 hb HX0 HX3 HS HB) | ((with_reducible refine gate_builtin (b:=.append) (xs:=#[.tmp 21,.tmp 24]) rfl ?_);at_builtin;refine Kd.S_append k56 (w0:=w) w.heap.size rfl (.tmp 21) (.tmp 24) 25 56 (.agg #[.slice none 0 0,.int .i64 0,.int .i64 0,.slice none 0 0]) 64 rfl Try.underlying25 (by kernel_rfl) rfl (by decide) (by omega) (.slice Ao own.length co) own ⟨code,go,tst,nx⟩ [.slice Ac code.length cc,.int .i64 go,.int .i64 tst,.slice A3n nx.length c3n] (fun _ => True) (fun k_ => wr.heap.size ≤ k_) rfl rfl ?aP ?aQ (fun _ _ => trivial) ?aO HB5.out HB5.out.size ?aL ?_;(case aP => exact k56_mkM _ _ _ ⟨code,go,tst,nx⟩ HZ0.out HZ3.out);(case aQ => exact fun k_ h_ => ⟨trivial,fun e_ => by have:=HLT.out k_ e_.symm;omega⟩);(case aO => exact Kd.S_mono HS5.out (fun k_ h_ => ⟨trivial,fun h2_ => by omega⟩));(case aL => have:=HLO.out;omega);intro v_ w9 ho hb hg hat;have HS9:=Aside0.mk ho;have HB9:=Aside0.mk hb;clear ho hb hg hat))
    go_roundg k1
    case measure => have:=HK1.out;omega
    case rel => exact ⟨_,_,rfl,H',⟨by have:=HK1.out;omega⟩,HB9,HS9⟩
   rw [if_neg c1] at H
   have H':=Aside0.mk H
   have q1 : decide (i < (l0.length : Int)) = false:=decide_eq_false c1
   clear H c1
   go_wp2
   generalize hn3 : own.length = n3 at HS ⊢
   clear hn3
   go_loopg [6] k1 (fun kq v6 w' => ∃ (own : List S56) (ag : Bool),v6 = .bool ag ∧ Aside0 (spec_l6Join.l1 kq own ag = some r) ∧ Aside0 (kq ≤ k1) ∧ Aside0 (Below w.heap.size w w') ∧ Aside0 (Kd.S k56 56 w' w.heap.size (fun _ => True) (.slice Ao n3 co) own))
   case atStart => exact ⟨own,true,rfl,H',⟨Nat.le_refl _⟩,HB,HS⟩
   case round =>
    clear H' HB HS
    obtain ⟨fs,ag,rfl,HA,HK2,HB,HS⟩:=hrel
    have HNL:=Aside0.mk (Kd.S_reads' HS.out).1
    cases gk with
    | zero => exact absurd HA.out (by simp [spec_l6Join.l1])
    | succ k2 =>
     have H:=HA.out
     clear HA
     simp only [spec_l6Join.l1] at H
     cases ag with
     | false =>
      rw [if_neg (by decide)] at H
      obtain ⟨⟨a1,a2⟩,D1,H⟩:=Option.bind_eq_some_iff.mp H
      obtain rfl:=Option.some.inj H
      have D:=Aside0.mk D1
      clear D1
      go_wp2_with (go_at_call 54;(rw [HNL.out];refine (spec_l6Trim.calls k2 _ _ fs a1 a2 _ (Kd.S_reads' HS.out).2.2 (by have:=(Kd.S_reads' HS.out).2.1;have:=HNL.out;omega) D.out).mono ?_);rintro e w6 ⟨v3,v4,m,rfl,hm1,hm2,ho1,ho2,hb⟩;have HS3:=Aside0.mk (Kd.S_lower ho1 (Nat.le_trans HB.out.size hm1));have HB3:=Aside0.mk (below_step HB.out hb);clear ho1 ho2 hb hm1 hm2)
      go_ret
      exact ⟨_,rfl,HS3.out,HB3.out⟩
     | true =>
      rw [if_pos rfl] at H
      obtain ⟨pr,D1,H⟩:=Option.bind_eq_some_iff.mp H
      obtain ⟨ls,D2,H⟩:=Option.bind_eq_some_iff.mp H
      have E1:=Aside0.mk D1
      have E2:=Aside0.mk D2
      have H':=Aside0.mk H
      have HRD:=Aside0.mk (show fs.length ≤ co by have:=(Kd.S_reads' HS.out).2.1;have:=HNL.out;omega)
      clear D1 D2 H
      obtain ⟨wo,HS,HB,HWO⟩ : ∃ wo,Aside0 (Kd.S k56 56 wo w.heap.size (fun _ => True) (.slice Ao n3 co) fs) ∧ Aside0 (Below w.heap.size w wo) ∧ Aside0 (Below wo.heap.size wo wr):=⟨wr,HS,HB,⟨Below.refl _ _⟩⟩
      have HB0:=HB
      go_wp2_with (first | (go_at_call 52;(rw [HNL.out];refine (spec_l6Preds.calls k2 _ _ fs pr _ (Kd.C_below (Kd.S_reads' HS.out).2.2 HWO.out) HRD.out E1.out).mono ?_);rintro e w4 ⟨v4,rfl,ho,hb⟩;have HP:=Aside0.mk (Kd.S_lower ho HWO.out.size);have HW4:=Aside0.mk (below_step HWO.out hb);obtain ⟨A4,c4,e4⟩:=Kd.S_slice ho;subst e4;rw [← HNL.out];clear ho hb HWO) | (go_at_call 49;rw [HNL.out];(refine (spec_l6Reach.calls k2 _ _ fs ls _ (Kd.C_below (Kd.S_reads' HS.out).2.2 HW4.out) HRD.out E2.out).mono ?_);rintro e w6 ⟨v6,rfl,ho,hb⟩;have HL:=Aside0.mk (Kd.R_lower ho HW4.out.size);have HP6:=Aside0.mk (Kd.S_below HP.out hb);have HB6:=Aside0.mk (below_step HW4.out hb);obtain ⟨A6,c6,e6⟩:=Kd.R_slice ho;subst e6;rw [← HNL.out];clear ho hb HP HW4))
      have HB:=Aside0.mk (Below.refl w6.heap.size w6)
      go_loopg [6,33] k2 (fun kq v6 v33 w' => ∃ (i : Int),v6 = .bool false ∧ v33 = .int .i64 i ∧ Aside0 (spec_l6Join.l2 kq fs pr ls i = some r) ∧ Aside0 (kq ≤ k2) ∧ Aside0 (Below w6.heap.size w6 w'))
      case atStart => exact ⟨0,rfl,rfl,H',⟨Nat.le_refl _⟩,HB⟩
      case round =>
       clear H' HB
       obtain ⟨i,rfl,rfl,HA,HK3,HB⟩:=hrel
       cases gk with
       | zero => exact absurd HA.out (by simp [spec_l6Join.l2])
       | succ k3 =>
        have H:=HA.out
        clear HA
        simp only [spec_l6Join.l2] at H
        have HBW:=Aside0.mk (below_step HB6.out HB.out)
        have HFR:=Aside0.mk (Kd.S_below HS.out HBW.out)
        by_cases c1 : i < (ls.length : Int)
        rotate_left
        ·rw [if_neg c1] at H
         have H':=Aside0.mk H
         have q1 : decide (i < (ls.length : Int)) = false:=decide_eq_false c1
         have HB9:=Aside0.mk (below_step HB.out (Below.refl _ _))
         clear c1 H
         go_wp2
         go_roundg k3
         case measure => have:=HK3.out;have:=HK2.out;omega
         case rel => exact ⟨fs,false,rfl,H',⟨by have:=HK3.out;have:=HK2.out;omega⟩,⟨below_step HB0.out HBW.out⟩,HFR⟩
        rw [if_pos c1] at H
        by_cases c2 : 0 ≤ i
        rotate_left
        ·rw [if_neg c2] at H;exact absurd H (by simp)
        rw [if_pos c2] at H
        obtain ⟨kk,hkk⟩ : ∃ kk,kk = rd ls i:=⟨_,rfl⟩
        rw [← hkk] at H
        by_cases c3 : 0 ≤ kk
        rotate_left
        ·rw [if_neg c3] at H;exact absurd H (by simp)
        rw [if_pos c3] at H
        by_cases c4 : kk < (fs.length : Int)
        rotate_left
        ·rw [if_neg c4] at H;exact absurd H (by simp)
        rw [if_pos c4] at H
        obtain ⟨a1,e1,hy1⟩:=Kd.at_int (Kd.C_below (Kd.R_reads' HL.out).2.2 HB.out) i c2 c1
        rw [← hkk] at hy1
        cases e1
        have c4n : kk < (n3 : Int):=by have:=HNL.out;omega
        obtain ⟨g,_,eg,_⟩:=Kd.S_form HS.out (by omega)
        injection eg with eg ega egb
        subst eg
        obtain ⟨B0,d0,v3,hz0,hz1,hz2,hz3,hC0,hD0,hR3,hfr⟩:=J_elem HFR.out kk c3 c4n
        obtain ⟨x,hx⟩ : ∃ x,x = rd_T56 fs kk:=⟨_,rfl⟩
        rw [← hx] at hz0 hz1 hz2 hC0 hD0 hR3 H
        obtain ⟨B3,d3,e3⟩:=Kd.R_slice hR3
        subst e3
        have q1 : decide (i < (ls.length : Int)) = true:=decide_eq_true c1
        have q2 : decide (0 ≤ i) = true:=decide_eq_true c2
        have p1:=eq_true c1
        have p2:=eq_true c2
        have p3:=eq_true c3
        have p4:=eq_true c4n
        have HC3:=Aside0.mk c3
        have HC4:=Aside0.mk c4n
        have HC0':=Aside0.mk hC0
        have HD0:=Aside0.mk hD0
        have HFZ:=Aside0.mk hfr
        clear c1 c2 c3 c4 c4n hkk ega egb hx hC0 hD0 hfr
        by_cases c5 : x.f1 = 1
        rotate_left
        ·rw [if_neg c5] at H
         have p5 : (x.f1 != 1) = true:=bne_iff_ne.mpr c5
         have H':=Aside0.mk H
         clear H c5
         have HBN:=HB
         go_wp2
         go_roundg k3
         case measure => have:=HK3.out;omega
         case rel => exact ⟨_,rfl,rfl,H',⟨by have:=HK3.out;omega⟩,⟨by repeat (first | (with_reducible exact HBN.out) | apply below_alloc | apply pw_below_drewN | apply below_drew1)⟩⟩
        rw [if_pos c5] at H
        have p5 : (x.f1 != 1) = false:=bne_eq_false_iff_eq.mpr c5
        clear c5
        by_cases c6 : 0 < x.f3.length
        rotate_left
        ·rw [if_neg c6] at H;exact absurd H (by simp)
        rw [if_pos c6] at H
        obtain ⟨g3,_,eg3,_⟩:=Kd.R_form hR3 c6
        injection eg3 with eg3 ega3 egb3
        subst eg3
        clear ega3 egb3
        have hz4:=(Kd.R_celln (0 : Int) hR3 0 (by decide) (by omega)).1
        obtain ⟨to_,hto⟩ : ∃ to_,to_ = rd x.f3 0:=⟨_,rfl⟩
        rw [← hto] at H
        rw [show rdOf (0 : Int) x.f3 0 = to_ from hto.symm,show (0 : Int).toNat = 0 from rfl] at hz4
        have p6:=eq_true c6
        clear c6 hR3 hto
        go_upto_region 15 with (fail)
        obtain ⟨wa,hwa⟩ : ∃ wa,wa = wr.alloc (.cells #[.slice B0 x.f0.length d0,.int .i64 x.f1,.int .i64 x.f2,.slice (some ⟨g3,0,none⟩) x.f3.length d3] 56):=⟨_,rfl⟩
        have HA0:=Aside0.mk (show Below wr.heap.size wr wa by rw [hwa];exact below_alloc (Below.refl _ _) _)
        have HXA:=Aside0.mk (show wa.heap[wr.heap.size]? = some (.cells #[.slice B0 x.f0.length d0,.int .i64 x.f1,.int .i64 x.f2,.slice (some ⟨g3,0,none⟩) x.f3.length d3] 56 (0,0)) by rw [hwa];exact heap_alloc_new _ _)
        rw [← hwa]
        have HGA:=Aside0.mk (show g < wr.heap.size from Kd.R_lt (Kd.S_R HFR.out) g (by simp [Value.ownBlock]))
        clear hwa
        obtain ⟨ga,hga⟩ : ∃ ga,ga = wr.heap.size:=⟨_,rfl⟩
        rw [← hga]
        have HA1:=Aside0.mk (show w6.heap.size ≤ ga by rw [hga];exact HB.out.size)
        rw [← hga] at HXA HGA
        have HBA:=Aside0.mk (below_step HB.out HA0.out)
        have HBWA:=Aside0.mk (below_step HB6.out HBA.out)
        replace hz4:=pw_cell_below HA0.out hz4
        have hb0:=(blk_cell HXA.out 0).trans rfl
        have hb1 : wa.cell? ⟨ga,1,none⟩ = some (.int .i64 x.f1):=(blk_cell HXA.out 1).trans rfl
        have hb3 : wa.cell? ⟨ga,3,none⟩ = some (.slice (some ⟨g3,0,none⟩) x.f3.length d3):=(blk_cell HXA.out 3).trans rfl
        have HFA:=Aside0.mk (Kd.S_below HFR.out HA0.out)
        have HC0A:=Aside0.mk (Kd.C_below HC0'.out HA0.out)
        clear hy1 hz0 hz1 hz2 hz3 HFR HC0' HFZ hga HA0 HBW HB hb0
        by_cases c7 : to_ = 0
        ·rw [if_pos c7] at H
         have H':=Aside0.mk H
         have p7 : (to_ == 0) = true:=beq_iff_eq.mpr c7
         clear H c7
         go_wp2
         repeat (go_quiet (fail);try go_wp2)
         go_roundg k3
         case measure => have:=HK3.out;omega
         case rel => exact ⟨_,rfl,rfl,H',⟨by have:=HK3.out;omega⟩,⟨by repeat (first | (with_reducible exact HBA.out) | apply below_alloc | apply pw_below_drewN | apply below_drew1)⟩⟩
        rw [if_neg c7] at H
        have p7 : (to_ == 0) = false:=beq_eq_false_iff_ne.mpr c7
        by_cases c8 : to_ = kk
        ·rw [if_pos c8] at H
         have H':=Aside0.mk H
         have p8 : (to_ == kk) = true:=beq_iff_eq.mpr c8
         clear H c7 c8
         go_wp2
         repeat (go_quiet (fail);try go_wp2)
         go_roundg k3
         case measure => have:=HK3.out;omega
         case rel => exact ⟨_,rfl,rfl,H',⟨by have:=HK3.out;omega⟩,⟨by repeat (first | (with_reducible exact HBA.out) | apply below_alloc | apply pw_below_drewN | apply below_drew1)⟩⟩
        rw [if_neg c8] at H
        have p8 : (to_ == kk) = false:=beq_eq_false_iff_ne.mpr c8
        by_cases c9 : 0 ≤ to_
        rotate_left
        ·rw [if_neg c9] at H;exact absurd H (by simp)
        rw [if_pos c9] at H
        by_cases c10 : to_ < (pr.length : Int)
        rotate_left
        ·rw [if_neg c10] at H;exact absurd H (by simp)
        rw [if_pos c10] at H
        obtain ⟨_,A9,c9_,e9,hz5,hl9,hr9⟩:=at_row (Kd.C_below (Kd.S_reads' HP6.out).2.2 HBA.out) to_ c9 c10
        cases e9
        obtain ⟨y,hy⟩ : ∃ y,y = pr.getD to_.toNat []:=⟨_,rfl⟩
        rw [← hy] at hz5 H
        have p9:=eq_true c9
        have p10:=eq_true c10
        have HC9:=Aside0.mk c9
        clear c7 c8 c9 c10 hl9 hr9 hy
        by_cases c11 : (y.length : Int) = 1
        rotate_left
        ·rw [if_neg c11] at H
         have H':=Aside0.mk H
         have p11 : ((y.length : Int) != 1) = true:=bne_iff_ne.mpr c11
         clear H c11
         go_wp2
         repeat (go_quiet (fail);try go_wp2)
         go_roundg k3
         case measure => have:=HK3.out;omega
         case rel => exact ⟨_,rfl,rfl,H',⟨by have:=HK3.out;omega⟩,⟨by repeat (first | (with_reducible exact HBA.out) | apply below_alloc | apply pw_below_drewN | apply below_drew1)⟩⟩
        rw [if_pos c11] at H
        have p11 : ((y.length : Int) != 1) = false:=bne_eq_false_iff_eq.mpr c11
        clear c11
        by_cases c12 : to_ < (fs.length : Int)
        rotate_left
        ·rw [if_neg c12] at H;exact absurd H (by simp)
        rw [if_pos c12] at H
        have c12n : to_ < (n3 : Int):=by have:=HNL.out;omega
        obtain ⟨B1,d1,v4,hu0,hu1,hu2,hu3,hC1,hD1,hR4,_⟩:=J_elem HFA.out to_ HC9.out c12n
        obtain ⟨z,hz⟩ : ∃ z,z = rd_T56 fs to_:=⟨_,rfl⟩
        rw [← hz] at hu0 hu1 hu2 hC1 hD1 hR4 H
        have p12:=eq_true c12n
        have HC1:=Aside0.mk hC1
        have HD1:=Aside0.mk hD1
        obtain ⟨B4,d4,e4⟩:=Kd.R_slice hR4
        subst e4
        have HR4:=Aside0.mk hR4
        clear c12 c12n hz hC1 hD1 hR4
        go_upto_region 17 with (fail)
        obtain ⟨wb,hwb⟩ : ∃ wb,wb = wa.alloc (.cells #[.slice B1 z.f0.length d1,.int .i64 z.f1,.int .i64 z.f2,.slice B4 z.f3.length d4] 56):=⟨_,rfl⟩
        have HB0':=Aside0.mk (show Below wa.heap.size wa wb by rw [hwb];exact below_alloc (Below.refl _ _) _)
        have HXB:=Aside0.mk (show wb.heap[wa.heap.size]? = some (.cells #[.slice B1 z.f0.length d1,.int .i64 z.f1,.int .i64 z.f2,.slice B4 z.f3.length d4] 56 (0,0)) by rw [hwb];exact heap_alloc_new _ _)
        rw [← hwb]
        clear hwb
        obtain ⟨gb,hgb⟩ : ∃ gb,gb = wa.heap.size:=⟨_,rfl⟩
        rw [← hgb]
        have HB1:=Aside0.mk (show w6.heap.size ≤ gb by rw [hgb];exact HBA.out.size)
        rw [← hgb] at HXB
        have HXA2:=Aside0.mk (blk_below HXA.out HB0'.out)
        have HBB:=Aside0.mk (below_step HBA.out HB0'.out)
        have HFB:=Aside0.mk (Kd.S_below HFA.out HB0'.out)
        have HC0B:=Aside0.mk (Kd.C_below HC0A.out HB0'.out)
        have HC1B:=Aside0.mk (Kd.C_below HC1.out HB0'.out)
        have HR4B:=Aside0.mk (Kd.R_below HR4.out HB0'.out)
        have hb0 : wb.cell? ⟨ga,0,none⟩ = some (.slice B0 x.f0.length d0):=(blk_cell HXA2.out 0).trans rfl
        have hd0 : wb.cell? ⟨gb,0,none⟩ = some (.slice B1 z.f0.length d1):=(blk_cell HXB.out 0).trans rfl
        have hd1 : wb.cell? ⟨gb,1,none⟩ = some (.int .i64 z.f1):=(blk_cell HXB.out 1).trans rfl
        have hd2 : wb.cell? ⟨gb,2,none⟩ = some (.int .i64 z.f2):=(blk_cell HXB.out 2).trans rfl
        have hd3 : wb.cell? ⟨gb,3,none⟩ = some (.slice B4 z.f3.length d4):=(blk_cell HXB.out 3).trans rfl
        clear hb1 hb3 hu0 hu1 hu2 hu3 hz4 hz5 HXA HFA HC0A HC1 HR4 hgb HB0' HBA HBWA
        by_cases c13 : 60 < wrap64 ((x.f0.length : Int) + (z.f0.length : Int))
        ·rw [if_pos c13] at H
         have H':=Aside0.mk H
         have p13 : decide (60 < wrap64 ((x.f0.length : Int) + (z.f0.length : Int))) = true:=decide_eq_true c13
         clear H c13
         go_wp2
         repeat (go_quiet (fail);try go_wp2)
         go_roundg k3
         case measure => have:=HK3.out;omega
         case rel => exact ⟨_,rfl,rfl,H',⟨by have:=HK3.out;omega⟩,⟨by repeat (first | (with_reducible exact HBB.out) | apply below_alloc | apply pw_below_drewN | apply below_drew1)⟩⟩
        rw [if_neg c13] at H
        have p13 : decide (60 < wrap64 ((x.f0.length : Int) + (z.f0.length : Int))) = false:=decide_eq_false c13
        clear c13
        obtain ⟨⟨code,go,tst,nx⟩,B5,H⟩:=Option.bind_eq_some_iff.mp H
        have B:=Aside0.mk B5
        dsimp only at H
        by_cases c14 : x.f0.length + z.f0.length < 1000
        rotate_left
        ·rw [if_neg c14] at H;exact absurd H (by simp)
        rw [if_pos c14] at H
        have HLN:=Aside0.mk c14
        have H':=Aside0.mk H
        clear B5 c14 H
        go_upto_region 19 with (go_at_call 80;(refine (spec_l6Own.calls B1 d1 z.f0 z.f1 z.f2 B4 d4 z.f3 code go tst nx _ HC1B.out HD1.out (Kd.R_reads' HR4B.out).2.2 (Kd.R_reads' HR4B.out).2.1 B.out).mono ?_);rintro e w8 ⟨v8,v9,rfl,ho0,ho3,hb⟩;obtain ⟨Ac,cc,ec⟩:=Kd.R_slice ho0;obtain ⟨An,cn,en⟩:=Kd.R_slice ho3;subst ec;subst en;have HB8:=Aside0.mk hb;have HX3:=Aside0.mk ho3;clear ho0 ho3 hb)
        obtain ⟨wd,hwd⟩ : ∃ wd,wd = w8.alloc (.cells #[.slice Ac code.length cc,.int .i64 go,.int .i64 tst,.slice An nx.length cn] 56):=⟨_,rfl⟩
        have HD0':=Aside0.mk (show Below w8.heap.size w8 wd by rw [hwd];exact below_alloc (Below.refl _ _) _)
        have HXC:=Aside0.mk (show wd.heap[w8.heap.size]? = some (.cells #[.slice Ac code.length cc,.int .i64 go,.int .i64 tst,.slice An nx.length cn] 56 (0,0)) by rw [hwd];exact heap_alloc_new _ _)
        rw [← hwd]
        clear hwd
        have HXA8:=Aside0.mk (blk_below HXA2.out HB8.out)
        have HXB8:=Aside0.mk (blk_below HXB.out HB8.out)
        have HGAD:=Aside0.mk (blk_lt HXA8.out)
        have HGBD:=Aside0.mk (blk_lt HXB8.out)
        have HXAD:=Aside0.mk (blk_below HXA8.out HD0'.out)
        have HXBD:=Aside0.mk (blk_below HXB8.out HD0'.out)
        have HBD1:=Aside0.mk (below_step HB8.out HD0'.out)
        have HBD:=Aside0.mk (below_step HBB.out HBD1.out)
        have HC0D:=Aside0.mk (Kd.C_below HC0B.out HBD1.out)
        have HC1D:=Aside0.mk (Kd.C_below HC1B.out HBD1.out)
        have HX3D:=Aside0.mk (Kd.R_below (Kd.R_mono (ok':=fun k_ => wb.heap.size ≤ k_ ∧ k_ < w8.heap.size) (Kd.R_bound HX3.out) (fun k_ h_ => ⟨h_.2.1,h_.2.2.1⟩)) HD0'.out)
        have HSD:=Aside0.mk (show wb.heap.size ≤ w8.heap.size from HB8.out.size)
        obtain ⟨gd,hgd⟩ : ∃ gd,gd = w8.heap.size:=⟨_,rfl⟩
        rw [← hgd] at HXC HGAD HGBD HX3D HSD
        rw [← hgd]
        have ha0 : wd.cell? ⟨ga,0,none⟩ = some (.slice B0 x.f0.length d0):=(blk_cell HXAD.out 0).trans rfl
        have hb0' : wd.cell? ⟨gb,0,none⟩ = some (.slice B1 z.f0.length d1):=(blk_cell HXBD.out 0).trans rfl
        clear hb0 hd0 hd1 hd2 hd3 hgd HB8 HXA8 HXB8 HXA2 HXB HD0' HC0B HC1B HR4B HX3
        have hb0:=hb0'
        clear hb0'
        obtain ⟨cd,hcd⟩ : ∃ cd,cd = x.f0 ++ z.f0:=⟨_,rfl⟩
        rw [← hcd] at H'
        have HCD:=Aside0.mk hcd
        clear hcd
        have HQ:=Aside0.mk (show Below wd.heap.size wd wd.drew from below_drew (Below.refl _ _))
        refine start_ (n:=9) (S:=fun w' => w'.cell? ⟨ga,0,none⟩ = some (.slice B0 x.f0.length d0) ∧ w'.cell? ⟨gb,0,none⟩ = some (.slice B1 z.f0.length d1)) (ds:=[8]) #[false,false,false,false,false,false,false,false,false] (by kernel_rfl) rfl rfl ?_ (fun hHeld => ?_)
        ·exact ⟨pw_cell_below HQ.out ha0,pw_cell_below HQ.out hb0⟩
        generalize hwq : World.drew wd = wq at HQ hHeld ⊢
        clear hwq
        have haq : wq.cell? ⟨ga,0,none⟩ = some (.slice B0 x.f0.length d0):=pw_cell_below HQ.out ha0
        have hbq : wq.cell? ⟨gb,0,none⟩ = some (.slice B1 z.f0.length d1):=pw_cell_below HQ.out hb0
        have HXCQ:=Aside0.mk (blk_below HXC.out HQ.out)
        have hcq : wq.cell? ⟨gd,0,none⟩ = some (.slice Ac code.length cc):=(blk_cell HXCQ.out 0).trans rfl
        have HXQ:=Aside0.mk (Kd.C_below HC0D.out HQ.out)
        have HZQ:=Aside0.mk (Kd.C_below HC1D.out HQ.out)
        refine pure_ (i:=1) (N:=some 88) (v:=?_) (a':=?_) #[false,true,false,false,false,false,false,false,false] rfl rfl (by kernel_rfl) (fun _ _ _ h => h) (Or.inl ⟨by rfl,?_⟩) ?_ ?_
        rotate_left
        ·intro w'
         go_simp
         with_reducible rfl
        rotate_left
        ·simp only [Act.put,List.setIfInBounds_toArray,List.set_cons_zero,List.set_cons_succ,i64_w,i32_w]
         rfl
        refine pure_ (i:=4) (N:=some 91) (v:=?_) (a':=?_) #[false,true,false,false,true,false,false,false,false] rfl rfl (by kernel_rfl) (fun _ _ _ h => h) (Or.inl ⟨by rfl,?_⟩) ?_ ?_
        rotate_left
        ·intro w'
         go_simp
         with_reducible rfl
        rotate_left
        ·simp only [Act.put,List.setIfInBounds_toArray,List.set_cons_zero,List.set_cons_succ,i64_w,i32_w]
         rfl
        refine take_ (i:=2) (N:=some 89) (v:=?_) (a':=?_) #[false,true,true,false,true,false,false,false,false] rfl rfl (by kernel_rfl) (fun _ _ _ h => h) (Or.inl ⟨by rfl,?_⟩) hHeld ?_ ?_
        rotate_left
        ·rintro w' ⟨s0,s1⟩
         go_simp
         with_reducible rfl
        rotate_left
        ·simp only [Act.put,List.setIfInBounds_toArray,List.set_cons_zero,List.set_cons_succ,i64_w,i32_w]
         rfl
        refine take_ (i:=5) (N:=some 92) (v:=?_) (a':=?_) #[false,true,true,false,true,true,false,false,false] rfl rfl (by kernel_rfl) (fun _ _ _ h => h) (Or.inl ⟨by rfl,?_⟩) hHeld ?_ ?_
        rotate_left
        ·rintro w' ⟨s0,s1⟩
         go_simp
         with_reducible rfl
        rotate_left
        ·simp only [Act.put,List.setIfInBounds_toArray,List.set_cons_zero,List.set_cons_succ,i64_w,i32_w]
         rfl
        refine one_ (i:=0) (N:=some 87) #[true,true,true,false,true,true,false,false,false] rfl rfl (by kernel_rfl) (by decide) (fun K hK => ?_)
        refine Kd.R_lit_step k79 (w0:=wq) wq.heap.size 79 (by rfl) (N:=87) rfl (xs:=([] : List S79)) (inner:=[]) (ok:=fun _ => True) (okp:=fun _ => True) ?hr ?hp (fun _ hk => hk) trivial (Below.refl _ _) (Nat.le_refl _) (by simp) ?_
        case hr => first | (go_simp;done) | (go_simp;rfl)
        case hp => exact Reps.none _ _
        intro v_ wv1 ho hb hg hnw
        clear hg hnw
        obtain ⟨E1,s1,e9⟩:=Kd.R_slice ho
        subst e9
        have HO1:=Aside0.mk ho
        have HW1:=Aside0.mk hb
        clear ho hb
        refine hK.out _ _ ?_ (fun hHeld => ?_)
        ·exact ⟨pw_cell_below HW1.out haq,pw_cell_below HW1.out hbq⟩
        clear hK K
        refine norm_ (a':=?_) ?_ ?_
        rotate_left
        ·show Act.put _ (some 87) _ = _
         simp only [Act.put,List.setIfInBounds_toArray,List.set_cons_zero,List.set_cons_succ,i64_w,i32_w]
         rfl
        refine one_ (i:=3) (N:=some 90) #[true,true,true,true,true,true,false,false,false] rfl rfl (by kernel_rfl) (by decide) (fun K hK => ?_)
        refine Kd.R_append_rows_step k79 (Rr:=k79.K wv1) (w0:=wq) wq.heap.size (by rfl) (.tmp 87) (.tmp 89) 54 79 (.agg #[(.int .i64 0),(.int .i64 0),(.int .i64 0),(.int .i64 0),(.int .i64 0),(.int .i64 0)]) 48 rfl Try.underlying54 info79 rfl (by decide) (by omega) (.slice E1 ([] : List S79).length s1) [] x.f0 _ _ _ (fun _ => True) (fun _ => False) rfl rfl ?aO ?aR (fun _ _ h_ => h_) (fun _ h_ => h_.elim) (fun _ _ => trivial) ?aB ?aS ?aL ?_
        case aR => exact Kd.C_below HXQ.out HW1.out
        case aO => exact HO1.out
        case aB => exact HW1.out
        case aS => exact HW1.out.size
        case aL => have:=HLN.out;simp;omega
        intro v_ wv2 ho hb hg hat
        clear hg hat
        rw [List.nil_append] at ho
        obtain ⟨E2,s2,e9⟩:=Kd.R_slice ho
        subst e9
        have HO2:=Aside0.mk ho
        have HW2:=Aside0.mk hb
        clear ho hb
        refine hK.out _ _ ?_ (fun hHeld => ?_)
        ·exact ⟨pw_cell_below HW2.out haq,pw_cell_below HW2.out hbq⟩
        clear hK K
        refine norm_ (a':=?_) ?_ ?_
        rotate_left
        ·show Act.put _ (some 90) _ = _
         simp only [Act.put,List.setIfInBounds_toArray,List.set_cons_zero,List.set_cons_succ,i64_w,i32_w]
         rfl
        refine one_ (i:=6) (N:=some 93) #[true,true,true,true,true,true,true,false,false] rfl rfl (by kernel_rfl) (by decide) (fun K hK => ?_)
        refine Kd.R_append_rows_step k79 (Rr:=k79.K wv2) (w0:=wq) wq.heap.size (by rfl) (.tmp 90) (.tmp 92) 54 79 (.agg #[(.int .i64 0),(.int .i64 0),(.int .i64 0),(.int .i64 0),(.int .i64 0),(.int .i64 0)]) 48 rfl Try.underlying54 info79 rfl (by decide) (by omega) (.slice E2 x.f0.length s2) x.f0 z.f0 _ _ _ (fun _ => True) (fun _ => False) rfl rfl ?aO ?aR (fun _ _ h_ => h_) (fun _ h_ => h_.elim) (fun _ _ => trivial) ?aB ?aS ?aL ?_
        case aR => exact Kd.C_below HZQ.out HW2.out
        case aO => exact HO2.out
        case aB => exact HW2.out
        case aS => exact HW2.out.size
        case aL => have:=HLN.out;simp;omega
        intro v_ wv3 ho hb hg hat
        clear hg hat
        rw [← HCD.out] at ho
        obtain ⟨E3,s3,e9⟩:=Kd.R_slice ho
        subst e9
        have HO3:=Aside0.mk ho
        have HW3:=Aside0.mk hb
        clear ho hb
        refine hK.out _ _ ?_ (fun hHeld => ?_)
        ·exact ⟨pw_cell_below HW3.out haq,pw_cell_below HW3.out hbq⟩
        clear hK K
        refine norm_ (a':=?_) ?_ ?_
        rotate_left
        ·show Act.put _ (some 93) _ = _
         simp only [Act.put,List.setIfInBounds_toArray,List.set_cons_zero,List.set_cons_succ,i64_w,i32_w]
         rfl
        refine pure_ (i:=7) (N:=some 94) (v:=?_) (a':=?_) #[true,true,true,true,true,true,true,true,false] rfl rfl (by kernel_rfl) (fun _ _ _ h => h) (Or.inl ⟨by rfl,?_⟩) ?_ ?_
        rotate_left
        ·intro w'
         go_simp
         with_reducible rfl
        rotate_left
        ·simp only [Act.put,List.setIfInBounds_toArray,List.set_cons_zero,List.set_cons_succ,i64_w,i32_w]
         rfl
        refine last_ (i:=8) (N:=none) #[true,true,true,true,true,true,true,true,true] rfl rfl (by kernel_rfl) (by decide) (fun K hK => ?_)
        have hk8:=pw_cell_below HW3.out hcq
        have hf8:=(frozen_below HW3.out (blk_lt HXCQ.out)).trans (blk_frozen HXCQ.out 0)
        refine skip_ (w1:=?_) (by rfl) rfl ?_ ?_
        rotate_left
        ·go_simp
         rfl
        refine hK.out _ _ ?_
        clear hK K
        refine done_ (by kernel_rfl) ?_
        have HXE:=Aside0.mk (blk_put (blk_below HXCQ.out HW3.out) 0 (.slice E3 cd.length s3) rfl)
        have HBE:=Aside0.mk (show Below wb.heap.size wb (wv3.setCell ⟨gd,0,none⟩ (.slice E3 cd.length s3)) from (below_step HBD1.out (below_step HQ.out HW3.out)).setCell HSD.out _)
        have HG0:=Aside0.mk (blk_lt HXCQ.out)
        have HRE0:=Aside0.mk (Kd.R_lower (Kd.R_far (p:=⟨gd,0,none⟩) (Kd.R_mono (ok':=fun k_ => wq.heap.size ≤ k_) (Kd.R_bound HO3.out) (fun k_ h_ => h_.2.1)) (fun k_ h_ e_ => by have e2 : k_ = gd:=e_;have:=HG0.out;omega) (.slice E3 cd.length s3)) (Nat.le_trans HBD1.out.size HQ.out.size))
        have HRE3:=Aside0.mk (Kd.R_far (p:=⟨gd,0,none⟩) (Kd.R_below HX3D.out (below_step HQ.out HW3.out)) (fun k_ h_ e_ => by have e2 : k_ = gd:=e_;omega) (.slice E3 cd.length s3))
        clear hcq hk8 hf8 haq hbq
        generalize hwe : wv3.setCell ⟨gd,0,none⟩ (.slice E3 cd.length s3) = we at *
        clear hwe
        obtain ⟨X0,x0,v7_,hz0,hz1,hz2,hz3,_,_,_,hfr⟩:=J_elem (Kd.S_below HFB.out HBE.out) kk HC3.out HC4.out
        have hy0 : we.cell? ⟨gd,0,none⟩ = some (.slice E3 cd.length s3):=(blk_cell HXE.out 0).trans rfl
        have hy1 : we.cell? ⟨gd,1,none⟩ = some (.int .i64 go):=(blk_cell HXE.out 1).trans rfl
        have hy2 : we.cell? ⟨gd,2,none⟩ = some (.int .i64 tst):=(blk_cell HXE.out 2).trans rfl
        have hy3 : we.cell? ⟨gd,3,none⟩ = some (.slice An nx.length cn):=(blk_cell HXE.out 3).trans rfl
        have hf0:=hfr 0
        have hf1:=hfr 1
        have hf2:=hfr 2
        have hf3:=hfr 3
        simp only [Nat.add_zero] at hf0
        have HBF:=Aside0.mk (below_step HB0.out (below_step HB6.out HBB.out))
        have HGB:=Aside0.mk (show w.heap.size ≤ g from Kd.R_base (Kd.S_R HFB.out) g (by simp [Value.ownBlock]))
        have HFIN:=Aside0.mk (J_put4 (go:=go) (tst:=tst) HFB.out HBF.out.size HC3.out HC4.out HBE.out (Kd.R_mono HRE0.out (fun _ _ => trivial)) (Kd.R_mono HRE3.out (fun _ _ => trivial)))
        clear HRE0 HRE3 HFB
        have HBX:=Aside0.mk (below_step HBF.out HBE.out)
        go_wp2
        go_roundg k3
        case measure => have:=HK3.out;have:=HK2.out;omega
        case rel => exact ⟨_,true,rfl,H',⟨by have:=HK3.out;have:=HK2.out;omega⟩,⟨(((HBX.out.setCell HGB.out _).setCell HGB.out _).setCell HGB.out _).setCell HGB.out _⟩,⟨Kd.S_mono HFIN.out (fun _ _ => trivial)⟩⟩

/-! ### spec_JoinFlow: function 33 -/
def spec_JoinFlow.f (k : Nat) (l0 : List (S56)) : Option ((List (S56)) × Bool):=(spec_GoodFlow.f k l0).bind fun t272 => (if t272 = true then ((spec_l6Join.f k l0).bind fun t273 => (some (t273,true))) else (some (([] : List (S56)),false)))
theorem spec_JoinFlow.mono : ∀ a0 k,LeO (spec_JoinFlow.f k a0) (spec_JoinFlow.f (k + 1) a0):=by
 intro a0 k
 unfold spec_JoinFlow.f
 repeat' first
   | (with_reducible exact spec_GoodFlow.mono _ _)
   | (with_reducible exact spec_l6Join.mono _ _)
   | (with_reducible exact LeO.refl _)
   | (with_reducible exact LeO.none _)
   | (with_reducible refine LeO.ite ?_ ?_)
   | (with_reducible refine LeO.bind ?_ (fun _ => ?_))
set_option maxHeartbeats 8000000 in
set_option maxRecDepth 100000 in
theorem spec_JoinFlow.calls (k : Nat) (A0 : Option Addr) (c0 : Nat) (l0 : List (S56)) (r1 : List (S56)) (r2 : Bool) (w : World) (hr0 : Kd.C k56 w A0 l0.length l0) (hc0 : l0.length ≤ c0) (h : spec_JoinFlow.f k l0 = some (r1,r2)) :
  Calls Try.prog 33 #[.slice A0 l0.length c0] w fun e w' => ∃ v0_ : Value,e = .returned (.tuple #[v0_,.bool r2]) ∧ Kd.S k56 56 w' w.heap.size (fun _ => True) v0_ r1 ∧ Below w.heap.size w w':=by
 have HR0:=Aside0.mk hr0
 have HC0:=Aside0.mk hc0
 clear hr0 hc0
 have HB:=Aside0.mk (Below.refl w.heap.size w)
 have H : ((spec_GoodFlow.f k l0).bind fun t272 => (if t272 = true then ((spec_l6Join.f k l0).bind fun t273 => (some (t273,true))) else (some (([] : List (S56)),false)))) = some (r1,r2):=h
 clear h
 replace H:=Option.bind_eq_some_iff.mp H
 obtain ⟨t272,A20,H⟩:=H
 replace H : (if t272 = true then ((spec_l6Join.f k l0).bind fun t273 => (some (t273,true))) else (some (([] : List (S56)),false))) = some (r1,r2):=H
 have A2:=Aside0.mk A20
 clear A20
 by_cases c3 : t272 = true
 rotate_left
 ·replace c3:=Bool.eq_false_iff.mpr c3
  subst c3
  have H1 : (some (([] : List (S56)),false)) = some (r1,r2):=by rw [if_neg (show ¬ (false = true) by decide)] at H;exact H
  clear H
  have H:=H1
  clear H1
  simp only [Option.some.injEq,Prod.mk.injEq] at H
  obtain ⟨rfl,rfl⟩:=H
  go_enter Try.func33,Try.ntmps33
  go_wp2_with (first | ((with_reducible refine gate_callee (f:=10) rfl ?_);refine goesL_ (some 5) rfl rfl Try.func10 (by kernel_rfl) rfl #[.slice A0 l0.length c0] rfl (by (try simp only [List.map_toArray,List.map_cons,List.map_nil]);first | done | rfl | (simp only [List.length_drop,List.length_take];rfl)) ?_;(with_reducible refine (spec_GoodFlow.calls k _ _ l0 false _ ?side1 ?side2 A2.out).mono ?_);(case side1 => repeat (first | exact HR0.out | (with_reducible refine Kd.C_alloc ?_ _) | (with_reducible refine Kd.C_drewN ?_ _) | (with_reducible refine Kd.C_drew ?_)));(case side2 => exact HC0.out);rintro e w7 ⟨rfl,hb⟩;refine ⟨_,rfl,?_⟩;have n0_:=Aside0.mk (below_step (by repeat (with_reducible first | exact HB.out | apply below_alloc | apply pw_below_drewN | apply below_drew1)) hb);clear HB;have HB:=n0_;clear n0_;(try clear hb);(try clear hb2);(try clear hk);(try clear hi)))
  go_ret2
  exact ⟨_,by first | rfl | (simp [*,errW_none,errW_some] <;> rfl),by first | exact Kd.S_nil _ _ _ _ _ | exact Kd.N_nil _ _ _ _ _ | exact Kd.V_nil _ _ _ _ _ | exact Kd.Q_nil _ _ _ _ _ | exact Kd.R_nil _ _ _ _ _,by repeat (with_reducible first | exact HB.out | apply below_alloc | apply pw_below_drewN | apply below_drew1)⟩
 subst c3
 have H1 : ((spec_l6Join.f k l0).bind fun t273 => (some (t273,true))) = some (r1,r2):=by rw [if_pos rfl] at H;exact H
 clear H
 have H:=H1
 clear H1
 replace H:=Option.bind_eq_some_iff.mp H
 obtain ⟨t273,A40,H⟩:=H
 replace H : (some (t273,true)) = some (r1,r2):=H
 have A4:=Aside0.mk A40
 clear A40
 simp only [Option.some.injEq,Prod.mk.injEq] at H
 obtain ⟨rfl,rfl⟩:=H
 go_enter Try.func33,Try.ntmps33
 go_wp2_with (first | ((with_reducible refine gate_callee (f:=10) rfl ?_);refine goesL_ (some 5) rfl rfl Try.func10 (by kernel_rfl) rfl #[.slice A0 l0.length c0] rfl (by (try simp only [List.map_toArray,List.map_cons,List.map_nil]);first | done | rfl | (simp only [List.length_drop,List.length_take];rfl)) ?_;(with_reducible refine (spec_GoodFlow.calls k _ _ l0 true _ ?side1 ?side2 A2.out).mono ?_);(case side1 => repeat (first | exact HR0.out | (with_reducible refine Kd.C_alloc ?_ _) | (with_reducible refine Kd.C_drewN ?_ _) | (with_reducible refine Kd.C_drew ?_)));(case side2 => exact HC0.out);rintro e w5 ⟨rfl,hb⟩;refine ⟨_,rfl,?_⟩;have n0_:=Aside0.mk (below_step (by repeat (with_reducible first | exact HB.out | apply below_alloc | apply pw_below_drewN | apply below_drew1)) hb);clear HB;have HB:=n0_;clear n0_;(try clear hb);(try clear hb2);(try clear hk);(try clear hi)) | ((with_reducible refine gate_callee (f:=57) rfl ?_);refine goesL_ (some 8) rfl rfl Try.func57 (by kernel_rfl) rfl #[.slice A0 l0.length c0] rfl (by (try simp only [List.map_toArray,List.map_cons,List.map_nil]);first | done | rfl | (simp only [List.length_drop,List.length_take];rfl)) ?_;(with_reducible refine (spec_l6Join.calls k _ _ l0 t273 _ ?side1 ?side2 A4.out).mono ?_);(case side1 => repeat (first | exact (Kd.C_below HR0.out HB.out) | (with_reducible refine Kd.C_alloc ?_ _) | (with_reducible refine Kd.C_drewN ?_ _) | (with_reducible refine Kd.C_drew ?_)));(case side2 => exact HC0.out);rintro e w6 ⟨v274,rfl,ho0,hb⟩;refine ⟨_,rfl,?_⟩;have n0_:=Aside0.mk (Kd.S_lower ho0 (below_size (by repeat (with_reducible first | exact HB.out | apply below_alloc | apply pw_below_drewN | apply below_drew1))));have n1_:=Aside0.mk (below_step (by repeat (with_reducible first | exact HB.out | apply below_alloc | apply pw_below_drewN | apply below_drew1)) hb);clear HB;have HO275:=n0_;have HB:=n1_;clear n0_ n1_;(try clear hb);(try clear hb2);(try clear hk);(try clear hi);(try clear ho0)))
 go_ret2
 exact ⟨_,by first | rfl | (simp [*,errW_none,errW_some] <;> rfl),by (with_reducible repeat (first | apply Kd.S_alloc | apply Kd.S_drewN | apply Kd.S_drew));exact HO275.out,by repeat (with_reducible first | exact HB.out | apply below_alloc | apply pw_below_drewN | apply below_drew1)⟩

/-! ### impl_within: function 39 -/
def impl_within.f (a0 : Int) (a1 : Int) (a2 : Int) : Option (Bool):=if a0 ≥ a1 then (some (decide (a0 ≤ a2))) else (some false)
set_option maxHeartbeats 8000000 in
set_option maxRecDepth 100000 in
theorem impl_within.calls (a0 : Int) (a1 : Int) (a2 : Int) (r : Bool) (w : World) (h : impl_within.f a0 a1 a2 = some r) :
  Calls Try.prog 39 #[.int .i64 a0,.int .i64 a1,.int .i64 a2] w fun e w' => e = .returned (.bool r) ∧ Drawn0 w w':=by
 have H : (if a0 ≥ a1 then (some (decide (a0 ≤ a2))) else (some false)) = some r:=h
 clear h
 by_cases c4 : a0 ≥ a1
 rotate_left
 ·rw [if_neg c4] at H
  have c4b0 : decide (a1 ≤ a0) = false:=decide_eq_false c4
  clear c4
  obtain rfl:=Option.some.inj H
  go_enter Try.func39,Try.ntmps39
  go_wp2
  go_ret
  exact ⟨by first | rfl | (simp;done) | (simp [*];done),by repeat (first | exact Drawn0.refl _ | apply Drawn0.step)⟩
 rw [if_pos c4] at H
 have c4b0 : decide (a1 ≤ a0) = true:=decide_eq_true c4
 clear c4
 obtain rfl:=Option.some.inj H
 go_enter Try.func39,Try.ntmps39
 go_wp2
 go_ret
 exact ⟨by first | rfl | (simp;done) | (simp [*];done),by repeat (first | exact Drawn0.refl _ | apply Drawn0.step)⟩

-- NOT PRINTED: function 66 (slices_IndexFunc_impl_Block)

-- NOT PRINTED: function 40 (slices_ContainsFunc_impl_Block)

-- NOT PRINTED: function 85 (slices_IndexFunc_impl_Flat)

-- NOT PRINTED: function 67 (slices_ContainsFunc_impl_Flat)

end Go.Proofs.Ythgkhfhfahifmaa.Q
