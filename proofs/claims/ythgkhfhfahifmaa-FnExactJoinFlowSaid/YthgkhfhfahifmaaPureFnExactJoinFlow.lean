/- Of all blocks the law of joinflow tells true. No condition beyond the row's own. -/
import Derived.Test.YthgkhfhfahifmaaQ0
import Derived.Test.YthgkhfhfahifmaaQ1
import Derived.Test.YthgkhfhfahifmaaQ10
import Derived.Test.YthgkhfhfahifmaaQ11
import Derived.Test.YthgkhfhfahifmaaQ12
import Derived.Test.YthgkhfhfahifmaaQ13
import Derived.Test.YthgkhfhfahifmaaQ14
import Derived.Test.YthgkhfhfahifmaaQ15
import Derived.Test.YthgkhfhfahifmaaQ16
import Derived.Test.YthgkhfhfahifmaaQ17
import Derived.Test.YthgkhfhfahifmaaQ18
import Derived.Test.YthgkhfhfahifmaaQ19
import Derived.Test.YthgkhfhfahifmaaQ2
import Derived.Test.YthgkhfhfahifmaaQ3
import Derived.Test.YthgkhfhfahifmaaQ4
import Derived.Test.YthgkhfhfahifmaaQ5
import Derived.Test.YthgkhfhfahifmaaQ6
import Derived.Test.YthgkhfhfahifmaaQ7
import Derived.Test.YthgkhfhfahifmaaQ8
import Derived.Test.YthgkhfhfahifmaaQ9
import Derived.Test.YthgkhfhfahifmaaLib1
import Derived.Test.YthgkhfhfahifmaaLib2
import Derived.Test.YthgkhfhfahifmaaTab
namespace Go.Proofs.Ythgkhfhfahifmaa.Pure
open Go.RowKit Go.Proofs.Ythgkhfhfahifmaa.Lib Go.Proofs.Ythgkhfhfahifmaa.Q Go.Proofs.YthgkhfhfahifmaaW.PrintWords Go.Proofs.YthgkhfhfahifmaaW.PrintLast Go.Proofs.YthgkhfhfahifmaaW.PrintMore
set_option linter.unusedVariables false
set_option linter.unusedSimpArgs false

theorem toIntS_l0 (q : List Int) : ∀ (p : List Int),p.length + q.length ≤ 1000000000000000 → Ev (fun k => laws_toIntS.l0 k (p ++ q) (p ++ List.replicate q.length 0) (p.length : Int)) (p ++ q):=by
 induction q with
 | nil =>
  intro p h0
  refine ⟨1,fun k hk => ?_⟩
  (try dsimp only)
  obtain ⟨k,rfl⟩ : ∃ m,k = m + 1:=⟨k - 1,by omega⟩
  simp only [laws_toIntS.l0]
  rw [if_neg (by simp)];simp
 | cons x q ih =>
  intro p h0
  simp only [List.length_cons] at h0
  obtain ⟨K,hK⟩:=ih (p ++ [x]) (by simp;omega)
  (try dsimp only at hK)
  refine ⟨K + 1,fun k hk => ?_⟩
  (try dsimp only)
  obtain ⟨k,rfl,hk'⟩:=within_lo hk
  simp only [laws_toIntS.l0]
  have hK':=hK k hk'
  simp only [List.append_assoc,List.cons_append,List.nil_append] at hK'
  have e1 : wrap64 ((p.length : Int) + 1) = ((p ++ [x]).length : Int):=by
   rw [wrap64_id (by omega) (by omega)];simp
  rw [if_pos (by simp;omega),if_pos (by omega),if_pos (by simp;omega),Int.toNat_natCast,rd_mid,List.length_cons,List.replicate_succ,set_mid,e1,hK']
theorem toIntS_ev (l : List Int) (h : l.length ≤ 1048576) : Ev (fun k => laws_toIntS.f k l) l:=by
 obtain ⟨K,hK⟩:=toIntS_l0 l [] (by simp;omega)
 (try dsimp only at hK)
 refine ⟨K,fun k hk => ?_⟩
 (try dsimp only)
 unfold laws_toIntS.f
 rw [if_pos (by omega),if_pos (by omega),Int.toNat_natCast]
 exact hK k hk

theorem eqIntS_l0 (d : Nat) : ∀ (p p' q q' : List Int),p.length = p'.length → q.length = d → q'.length = d → p.length + d ≤ 1000000000000000 → Ev (fun k => laws_eqIntS.l0 k (p ++ q) (p' ++ q') (p.length : Int)) (decide (q = q')):=by
 induction d with
 | zero =>
  intro p p' q q' hp hq hq' hb
  obtain rfl : q = []:=by simpa using hq
  obtain rfl : q' = []:=by simpa using hq'
  refine ⟨1,fun k hk => ?_⟩
  (try dsimp only)
  obtain ⟨k,rfl⟩ : ∃ m,k = m + 1:=⟨k - 1,by omega⟩
  simp only [laws_eqIntS.l0]
  rw [if_neg (by simp)];rfl
 | succ d ih =>
  intro p p' q q' hp hq hq' hb
  match q,q',hq,hq' with
  | x :: q,y :: q',hq,hq' =>
   simp only [List.length_cons] at hq hq'
   have r1:=rd_mid p q x
   have r2:=rd_mid p' q' y
   rw [← hp] at r2
   have e1 : wrap64 ((p.length : Int) + 1) = ((p ++ [x]).length : Int):=by
    rw [wrap64_id (by omega) (by omega)];simp
   by_cases hxy : x = y
   ·subst hxy
    obtain ⟨K,hK⟩:=ih (p ++ [x]) (p' ++ [x]) q q' (by simp [hp]) (by omega) (by omega) (by simp;omega)
    (try dsimp only at hK)
    refine ⟨K + 1,fun k hk => ?_⟩
    (try dsimp only)
    obtain ⟨k,rfl,hk'⟩:=within_lo hk
    simp only [laws_eqIntS.l0]
    have hK':=hK k hk'
    simp only [List.append_assoc,List.cons_append,List.nil_append] at hK'
    rw [if_pos (by simp;omega),if_pos (by omega),if_pos (by simp;omega),r1,r2,if_pos rfl,e1,hK']
    simp
   ·refine ⟨1,fun k hk => ?_⟩
    (try dsimp only)
    obtain ⟨k,rfl⟩ : ∃ m,k = m + 1:=⟨k - 1,by omega⟩
    simp only [laws_eqIntS.l0]
    rw [if_pos (by simp;omega),if_pos (by omega),if_pos (by simp;omega),r1,r2,if_neg hxy]
    simp [hxy]
theorem eqIntS_ev (a b : List Int) (h : a.length ≤ 1000000000000000) : Ev (fun k => laws_eqIntS.f k a b) (decide (a = b)):=by
 by_cases hl : a.length = b.length
 ·obtain ⟨K,hK⟩:=eqIntS_l0 a.length [] [] a b rfl rfl hl.symm (by simpa using h)
  (try dsimp only at hK)
  refine ⟨K,fun k hk => ?_⟩
  (try dsimp only)
  unfold laws_eqIntS.f
  rw [if_pos (by omega)]
  exact hK k hk
 ·refine ⟨0,fun k _ => ?_⟩
  (try dsimp only)
  unfold laws_eqIntS.f
  rw [if_neg (by omega)]
  congr 1;symm
  rw [decide_eq_false_iff_not]
  rintro rfl;exact hl rfl

/-- A law's flat step, and its block, as the program's. -/
def cvF (x : S97) : S79:=⟨x.f0,x.f1,x.f2,x.f3,x.f4,x.f5⟩
def cvB (x : S53) : S56:=⟨x.f0.map cvF,x.f1,x.f2,x.f3⟩
theorem szIntS_some2 (l : List Int) (a : Int) (ha : a ≤ 1048576) (ha0 : 0 ≤ a) (hl : l.length ≤ maxLen) : laws_szIntS.f l a = some (if (l.length : Int) ≤ a then a - l.length else -1):=by
 unfold maxLen at hl
 unfold laws_szIntS.f
 rw [wrap64_id (by omega) (by omega)]
 by_cases h : (l.length : Int) ≤ a
 ·rw [if_neg (by omega),if_pos h]
 ·rw [if_pos (by omega),if_neg h]
theorem szFlatS_some (l : List S97) (a : Int) (ha : a ≤ 1048576) (ha0 : 0 ≤ a) (hl : l.length ≤ maxLen) : laws_szFlatS.f l a = some (if (l.length : Int) ≤ a then a - l.length else -1):=by
 unfold maxLen at hl
 unfold laws_szFlatS.f
 rw [wrap64_id (by omega) (by omega)]
 by_cases h : (l.length : Int) ≤ a
 ·rw [if_neg (by omega),if_pos h]
 ·rw [if_pos (by omega),if_neg h]
theorem szBlock_some (c : List S97) (g t : Int) (n : List Int) (a : Int) (ha : a ≤ 1048576) (ha0 : 0 ≤ a) (hc : c.length ≤ maxLen) (hn : n.length ≤ maxLen) :
 laws_szBlock.f c g t n a = some (if (c.length : Int) + n.length ≤ a then a - c.length - n.length else -1):=by
 unfold laws_szBlock.f
 rw [szFlatS_some c a ha ha0 hc,Option.bind_some]
 by_cases h : (c.length : Int) ≤ a
 ·rw [if_pos h,if_neg (by omega),szIntS_some2 n _ (by omega) (by omega) hn,Option.bind_some]
  by_cases h2 : (n.length : Int) ≤ a - c.length
  ·rw [if_pos h2,if_neg (by omega),if_pos (by omega)]
  ·rw [if_neg h2,if_pos (by omega),if_neg (by omega)]
 ·rw [if_neg h,if_pos (by omega),if_neg (by omega)]
def szB (a : Int) : List S53 → Int
 | [] => a
 | x :: q => if (x.f0.length : Int) + x.f3.length ≤ a then szB (a - x.f0.length - x.f3.length) q else -1
theorem szB_some (q : List S53) : ∀ a : Int,0 ≤ a → szB a q < 0 ∨ 0 ≤ szB a q ∧ szB a q ≤ a ∧ ∀ x ∈ q,(x.f0.length : Int) + x.f3.length ≤ a:=by
 induction q with
 | nil => intro a ha;exact .inr ⟨ha,Int.le_refl _,by simp⟩
 | cons x q ih =>
  intro a ha
  unfold szB
  by_cases h : (x.f0.length : Int) + x.f3.length ≤ a
  ·rw [if_pos h]
   rcases ih (a - x.f0.length - x.f3.length) (by omega) with h1 | ⟨h0,h2,h1⟩
   ·exact .inl h1
   ·refine .inr ⟨h0,by omega,fun y hy => ?_⟩
    rcases List.mem_cons.mp hy with rfl | hy
    ·exact h
    ·have:=h1 y hy;omega
  ·rw [if_neg h];exact .inl (by omega)
theorem szBlockS_ev (l : List S53) (hl : l.length ≤ maxLen) (hx : ∀ x ∈ l,x.f0.length ≤ maxLen ∧ x.f3.length ≤ maxLen) :
 ∃ r,Ev (fun k => laws_szBlockS.f k l 1048576) r ∧ r ≤ 1048576 ∧ (r < 0 ∨ l.length ≤ 1048576 ∧ ∀ x ∈ l,x.f0.length ≤ 1048576 ∧ x.f3.length ≤ 1048576):=by
 have hl2:=hl
 unfold maxLen at hl2
 unfold laws_szBlockS.f
 rw [wrap64_id (by omega) (by omega)]
 by_cases h : (l.length : Int) ≤ 1048576
 ·have hs:=szB_some l (1048576 - l.length) (by omega)
  refine ⟨szB (1048576 - l.length) l,Ev.ite_neg (by omega) ?_,by omega,?_⟩
  ·refine Ev.rangeI l (fun k b i => laws_szBlockS.l0 k l b i) (fun b _ q => szB b q) (fun b _ => 0 ≤ b ∧ b ≤ 1048576) (fun b _ => ?_) (fun b p x q e hb ih => ?_) _ ⟨by omega,by omega⟩
   ·refine Ev.succ ?_
    simp only [laws_szBlockS.l0]
    exact Ev.ite_neg (by omega) (Ev.some rfl)
   ·refine Ev.succ ?_
    simp only [laws_szBlockS.l0]
    have hlen : p.length < l.length:=by rw [e];simp
    refine Ev.ite_pos (by omega) (Ev.ite_pos (by omega) ?_)
    have hrd : rd_T53 l (p.length : Int) = x:=by unfold rd_T53;rw [e];exact getD_mid _ _ _ _
    have hxx:=hx x (by rw [e];simp)
    rw [hrd,szBlock_some x.f0 x.f1 x.f2 x.f3 b (by omega) hb.1 hxx.1 hxx.2]
    simp only [Option.bind_some]
    by_cases h1 : (x.f0.length : Int) + x.f3.length ≤ b
    ·simp only [if_pos h1]
     refine Ev.ite_neg (by omega) ?_
     rw [wrap_succ (by omega),szB,if_pos h1]
     exact ih _ ⟨by omega,by omega⟩
    ·simp only [if_neg h1]
     refine Ev.ite_pos (by omega) (Ev.some ?_)
     rw [szB,if_neg h1]
  ·rcases hs with h1 | ⟨_,_,h1⟩
   ·exact .inl h1
   ·exact .inr ⟨by omega,fun x hx => by have:=h1 x hx;omega⟩
 ·exact ⟨-1,Ev.ite_pos (by omega) (Ev.some rfl),by omega,.inl (by omega)⟩
theorem toFlatS_ev (l : List S97) (hl : l.length ≤ 1048576) : Ev (fun k => laws_toFlatS.f k l) (l.map cvF):=by
 unfold laws_toFlatS.f
 refine Ev.ite_pos (by omega) (Ev.ite_pos (by omega) ?_)
 rw [Int.toNat_natCast]
 have:=Ev.rangeI (ρ:=List S79) l (fun k b i => laws_toFlatS.l0 k l b i) (fun _ _ _ => l.map cvF) (fun b p => b = p.map cvF ++ List.replicate (l.length - p.length) z79) (fun b hb => ?_) (fun b p x q e hb ih => ?_) (List.replicate l.length z79) (by simp)
 ·exact this
 ·refine Ev.succ ?_
  simp only [laws_toFlatS.l0]
  refine Ev.ite_neg (by omega) (Ev.some ?_)
  rw [hb];simp
 ·refine Ev.succ ?_
  simp only [laws_toFlatS.l0]
  have hlen : p.length < l.length:=by rw [e];simp
  have hbl : b.length = l.length:=by rw [hb];simp;omega
  have hrd : rd_T97 l (p.length : Int) = x:=by unfold rd_T97;rw [e];exact getD_mid _ _ _ _
  refine Ev.ite_pos (by omega) (Ev.ite_pos (by omega) ?_)
  rw [hrd]
  unfold laws_toFlat.f
  simp only [Option.bind_some]
  refine Ev.ite_pos (by omega) ?_
  rw [Int.toNat_natCast,wrap_succ (by omega)]
  refine ih _ ?_
  have hpl : p.length = (p.map cvF).length:=by simp
  rw [hb,show l.length - p.length = (l.length - (p ++ [x]).length) + 1 from by simp;omega,List.replicate_succ,hpl,set_mid]
  simp [cvF]
theorem toBlockS_ev (l : List S53) (hl : l.length ≤ 1048576) (hx : ∀ x ∈ l,x.f0.length ≤ 1048576 ∧ x.f3.length ≤ 1048576) : Ev (fun k => laws_toBlockS.f k l) (l.map cvB):=by
 unfold laws_toBlockS.f
 refine Ev.ite_pos (by omega) (Ev.ite_pos (by omega) ?_)
 rw [Int.toNat_natCast]
 have:=Ev.rangeI (ρ:=List S56) l (fun k b i => laws_toBlockS.l0 k l b i) (fun _ _ _ => l.map cvB) (fun b p => b = p.map cvB ++ List.replicate (l.length - p.length) z56) (fun b hb => ?_) (fun b p x q e hb ih => ?_) (List.replicate l.length z56) (by simp)
 ·exact this
 ·refine Ev.succ ?_
  simp only [laws_toBlockS.l0]
  refine Ev.ite_neg (by omega) (Ev.some ?_)
  rw [hb];simp
 ·refine Ev.succ ?_
  simp only [laws_toBlockS.l0]
  have hlen : p.length < l.length:=by rw [e];simp
  have hbl : b.length = l.length:=by rw [hb];simp;omega
  have hrd : rd_T53 l (p.length : Int) = x:=by unfold rd_T53;rw [e];exact getD_mid _ _ _ _
  refine Ev.ite_pos (by omega) (Ev.ite_pos (by omega) ?_)
  rw [hrd]
  have hxx:=hx x (by rw [e];simp)
  have hT : Ev (fun k => laws_toBlock.f k x.f0 x.f1 x.f2 x.f3) (x.f0.map cvF,x.f1,x.f2,x.f3):=by
   unfold laws_toBlock.f
   exact Ev.bind (toFlatS_ev x.f0 hxx.1) (Ev.bind (toIntS_ev x.f3 hxx.2) (Ev.now _))
  refine Ev.bind hT (Ev.ite_pos (by omega) ?_)
  rw [Int.toNat_natCast,wrap_succ (by omega)]
  refine ih _ ?_
  have hpl : p.length = (p.map cvB).length:=by simp
  rw [hb,show l.length - p.length = (l.length - (p ++ [x]).length) + 1 from by simp;omega,List.replicate_succ,hpl,set_mid]
  simp [cvB]
theorem eqFlatS_ev (a : List S79) (h : a.length ≤ 1000000000000000) : Ev (fun k => laws_eqFlatS.f k a a) true:=by
 unfold laws_eqFlatS.f
 refine Ev.ite_pos rfl ?_
 refine Ev.rangeI a (fun k (_ : Unit) i => laws_eqFlatS.l0 k a a i) (fun _ _ _ => true) (fun _ p => True) (fun _ hp => ?_) (fun _ p x q e hp ih => ?_) () trivial
 ·refine Ev.succ ?_
  simp only [laws_eqFlatS.l0]
  exact Ev.ite_neg (by omega) (Ev.some rfl)
 ·refine Ev.succ ?_
  simp only [laws_eqFlatS.l0]
  have hlen : p.length < a.length:=by rw [e];simp
  refine Ev.ite_pos (by omega) (Ev.ite_pos (by omega) (Ev.ite_pos (by omega) ?_))
  unfold laws_eqFlat.f
  simp only [if_true,Option.bind_some]
  rw [wrap_succ (by omega)]
  exact ih () trivial
theorem eqBlockS_ev (a : List S56) (h : a.length ≤ 1000000000000000) (hx : ∀ x ∈ a,x.f0.length ≤ 1000000000000000 ∧ x.f3.length ≤ 1000000000000000) : Ev (fun k => laws_eqBlockS.f k a a) true:=by
 unfold laws_eqBlockS.f
 refine Ev.ite_pos rfl ?_
 refine Ev.rangeI a (fun k (_ : Unit) i => laws_eqBlockS.l0 k a a i) (fun _ _ _ => true) (fun _ p => True) (fun _ hp => ?_) (fun _ p x q e hp ih => ?_) () trivial
 ·refine Ev.succ ?_
  simp only [laws_eqBlockS.l0]
  exact Ev.ite_neg (by omega) (Ev.some rfl)
 ·refine Ev.succ ?_
  simp only [laws_eqBlockS.l0]
  have hlen : p.length < a.length:=by rw [e];simp
  have hrd : rd_T56 a (p.length : Int) = x:=by unfold rd_T56;rw [e];exact getD_mid _ _ _ _
  have hxx:=hx x (by rw [e];simp)
  refine Ev.ite_pos (by omega) (Ev.ite_pos (by omega) (Ev.ite_pos (by omega) ?_))
  rw [hrd]
  have h1 : Ev (fun k => laws_eqBlock.f k x.f0 x.f1 x.f2 x.f3 x.f0 x.f1 x.f2 x.f3) true:=by
   unfold laws_eqBlock.f
   exact Ev.bind (eqFlatS_ev x.f0 hxx.1) (Ev.ite_pos rfl (Ev.ite_pos rfl (Ev.ite_pos rfl (Ev.bind (eqIntS_ev x.f3 x.f3 hxx.2) (Ev.ite_pos (by simp) (Ev.some rfl))))))
  refine Ev.bind h1 (Ev.ite_pos rfl ?_)
  rw [wrap_succ (by omega)]
  exact ih () trivial

theorem markIntS_l0 (q : List Int) : ∀ (p : List Int) (a : Int),p.length + q.length ≤ 1000000000000000 → -1000000000000000 ≤ a → a + q.length ≤ 1000000000000000000 → Ev (fun k => laws_markIntS.l0 k (p ++ q) a (p.length : Int)) (a + q.length,p ++ upI a q.length):=by
 induction q with
 | nil =>
  intro p a h0 h1 h2
  refine ⟨1,fun k hk => ?_⟩
  (try dsimp only)
  obtain ⟨k,rfl⟩ : ∃ m,k = m + 1:=⟨k - 1,by omega⟩
  simp only [laws_markIntS.l0]
  rw [if_neg (by simp)];simp [upI]
 | cons x q ih =>
  intro p a h0 h1 h2
  simp only [List.length_cons] at h0 h2
  obtain ⟨K,hK⟩:=ih (p ++ [a]) (a + 1) (by simp;omega) (by omega) (by omega)
  (try dsimp only at hK)
  refine ⟨K + 1,fun k hk => ?_⟩
  (try dsimp only)
  obtain ⟨k,rfl,hk'⟩:=within_lo hk
  simp only [laws_markIntS.l0]
  have hK':=hK k hk'
  simp only [List.append_assoc,List.cons_append,List.nil_append] at hK'
  have e1 : wrap64 ((p.length : Int) + 1) = ((p ++ [a]).length : Int):=by
   rw [wrap64_id (by omega) (by omega)];simp
  rw [if_pos (by simp;omega),if_pos (by omega),Int.toNat_natCast,set_mid,e1,wrap64_id (by omega) (by omega),hK']
  simp only [upI,List.length_cons]
  rw [show a + 1 + (q.length : Int) = a + ((q.length + 1 : Nat) : Int) from by omega]
theorem markIntS_ev (l : List Int) (a : Int) (h0 : l.length ≤ 1000000000000000) (h1 : -1000000000000000 ≤ a) (h2 : a + l.length ≤ 1000000000000000000) : Ev (fun k => laws_markIntS.f k l a) (a + l.length,upI a l.length) :=
 markIntS_l0 l [] a (by simpa using h0) h1 h2

/-- What marks leave of a row of flat steps, and of a row of blocks, and where they end. -/
def mkF : Int → List S79 → List S79
 | _,[] => []
 | a,_ :: q => ⟨a,a + 1,a + 2,a + 3,a + 4,a + 5⟩ :: mkF (a + 6) q
theorem markFlatS_l0 (q : List S79) : ∀ (p : List S79) (a : Int),p.length + q.length ≤ 1000000000 → 0 ≤ a → a + 6 * (q.length : Int) ≤ 1000000000000000000 →
 Ev (fun k => laws_markFlatS.l0 k (p ++ q) a (p.length : Int)) (a + 6 * (q.length : Int),p ++ mkF a q):=by
 induction q with
 | nil =>
  intro p a h0 h2 h3
  refine Ev.succ ?_
  simp only [laws_markFlatS.l0]
  exact Ev.ite_neg (by simp) (Ev.some (by simp [mkF]))
 | cons x q ih =>
  intro p a h0 h2 h3
  simp only [List.length_cons] at h0 h3
  have hr : ∀ y : S79,rd_T79 (p ++ y :: q) (p.length : Int) = y:=fun y => by unfold rd_T79;exact getD_mid _ _ _ _
  refine Ev.succ ?_
  simp only [laws_markFlatS.l0,hr,Int.toNat_natCast,set_mid,Option.bind_some]
  refine Ev.ite_pos (by simp;omega) (Ev.ite_pos (by omega) ?_)
  rw [wrap64_id (x:=a + 1) (by omega) (by omega),wrap64_id (x:=a + 1 + 1) (by omega) (by omega),wrap64_id (x:=a + 1 + 1 + 1) (by omega) (by omega),wrap64_id (x:=a + 1 + 1 + 1 + 1) (by omega) (by omega),wrap64_id (x:=a + 1 + 1 + 1 + 1 + 1) (by omega) (by omega),wrap64_id (x:=a + 1 + 1 + 1 + 1 + 1 + 1) (by omega) (by omega),wrap_succ (by omega)]
  have:=ih (p ++ [⟨a,a + 1,a + 2,a + 3,a + 4,a + 5⟩]) (a + 6) (by simp;omega) (by omega) (by omega)
  rw [List.append_assoc,List.length_append] at this
  rw [mkF]
  simp only [show a + 1 + 1 = a + 2 by omega,show a + 2 + 1 = a + 3 by omega,show a + 3 + 1 = a + 4 by omega,show a + 4 + 1 = a + 5 by omega,show a + 5 + 1 = a + 6 by omega]
  refine Ev.cast this ?_
  simp only [List.length_cons,List.singleton_append,Prod.mk.injEq,and_true,List.append_assoc]
  omega
theorem markFlatS_ev (q : List S79) (a : Int) (h0 : q.length ≤ 1048576) (h2 : 0 ≤ a) (h3 : a ≤ 100000000000000000) : Ev (fun k => laws_markFlatS.f k q a) (a + 6 * (q.length : Int),mkF a q):=by
 unfold laws_markFlatS.f
 exact markFlatS_l0 q [] a (by simp;omega) h2 (by omega)
def mkB : Int → List S56 → List S56
 | _,[] => []
 | a,x :: q => ⟨mkF a x.f0,a + 6 * (x.f0.length : Int),a + 6 * (x.f0.length : Int) + 1,upI (a + 6 * (x.f0.length : Int) + 2) x.f3.length⟩ :: mkB (a + 6 * (x.f0.length : Int) + 2 + x.f3.length) q
def mkBN : Int → List S56 → Int
 | a,[] => a
 | a,x :: q => mkBN (a + 6 * (x.f0.length : Int) + 2 + x.f3.length) q
theorem mkBN_ge (q : List S56) : ∀ a,a ≤ mkBN a q:=by
 induction q with
 | nil => intro a;exact Int.le_refl a
 | cons x q ih => intro a;rw [mkBN];have:=ih (a + 6 * (x.f0.length : Int) + 2 + x.f3.length);omega
theorem markBlockS_l0 (q : List S56) : ∀ (p : List S56) (a : Int),p.length + q.length ≤ 1048576 → (∀ x ∈ q,x.f0.length ≤ 1048576 ∧ x.f3.length ≤ 1048576) → 0 ≤ a → a + (q.length : Int) * 10000000 ≤ 1000000000000000 →
 Ev (fun k => laws_markBlockS.l0 k (p ++ q) a (p.length : Int)) (mkBN a q,p ++ mkB a q):=by
 induction q with
 | nil =>
  intro p a h0 h1 h2 h3
  refine Ev.succ ?_
  simp only [laws_markBlockS.l0]
  exact Ev.ite_neg (by simp) (Ev.some (by simp [mkBN,mkB]))
 | cons x q ih =>
  intro p a h0 h1 h2 h3
  simp only [List.length_cons] at h0 h3
  have hx:=h1 x (by simp)
  have hr : rd_T56 (p ++ x :: q) (p.length : Int) = x:=by unfold rd_T56;exact getD_mid _ _ _ _
  refine Ev.succ ?_
  simp only [laws_markBlockS.l0,hr]
  refine Ev.ite_pos (by simp;omega) (Ev.ite_pos (by omega) ?_)
  refine Ev.bind (markFlatS_ev x.f0 a hx.1 (by omega) (by omega)) ?_
  dsimp only
  rw [wrap64_id (x:=a + 6 * (x.f0.length : Int) + 1) (by omega) (by omega),wrap64_id (x:=a + 6 * (x.f0.length : Int) + 1 + 1) (by omega) (by omega),show a + 6 * (x.f0.length : Int) + 1 + 1 = a + 6 * (x.f0.length : Int) + 2 by omega]
  refine Ev.bind (markIntS_ev x.f3 (a + 6 * (x.f0.length : Int) + 2) (by omega) (by omega) (by omega)) ?_
  dsimp only
  rw [Int.toNat_natCast,set_mid,wrap_succ (by omega)]
  have:=ih (p ++ [⟨mkF a x.f0,a + 6 * (x.f0.length : Int),a + 6 * (x.f0.length : Int) + 1,upI (a + 6 * (x.f0.length : Int) + 2) x.f3.length⟩]) (a + 6 * (x.f0.length : Int) + 2 + x.f3.length) (by simp;omega) (fun y hy => h1 y (by simp [hy])) (by omega) (by omega)
  rw [List.append_assoc,List.length_append] at this
  rw [mkBN,mkB]
  exact Ev.cast this (by simp)
theorem markBlockS_ev (q : List S56) (h0 : q.length ≤ 1048576) (h1 : ∀ x ∈ q,x.f0.length ≤ 1048576 ∧ x.f3.length ≤ 1048576) : Ev (fun k => laws_markBlockS.f k q 1) (mkBN 1 q,mkB 1 q):=by
 unfold laws_markBlockS.f
 exact markBlockS_l0 q [] 1 (by simpa using h0) h1 (by omega) (by omega)

theorem heldIntS_l0 (n : Nat) : ∀ (p : List Int) (a : Int),p.length + n ≤ 1000000000000000 → -1000000000000000 ≤ a → a + n ≤ 1000000000000000000 → Ev (fun k => laws_heldIntS.l0 k (p ++ upI a n) a (p.length : Int)) (a + n):=by
 induction n with
 | zero =>
  intro p a h0 h1 h2
  refine ⟨1,fun k hk => ?_⟩
  (try dsimp only)
  obtain ⟨k,rfl⟩ : ∃ m,k = m + 1:=⟨k - 1,by omega⟩
  simp only [laws_heldIntS.l0]
  rw [if_neg (by simp [upI])];simp
 | succ n ih =>
  intro p a h0 h1 h2
  obtain ⟨K,hK⟩:=ih (p ++ [a]) (a + 1) (by simp;omega) (by omega) (by omega)
  (try dsimp only at hK)
  refine ⟨K + 1,fun k hk => ?_⟩
  (try dsimp only)
  obtain ⟨k,rfl,hk'⟩:=within_lo hk
  rw [laws_heldIntS.l0,show upI a (n + 1) = a :: upI (a + 1) n from rfl]
  have hK':=hK k hk'
  simp only [List.append_assoc,List.cons_append,List.nil_append] at hK'
  have e1 : wrap64 ((p.length : Int) + 1) = ((p ++ [a]).length : Int):=by
   rw [wrap64_id (by omega) (by omega)];simp
  rw [if_pos (by simp <;> omega),if_pos (by omega),rd_mid,if_pos rfl,e1,wrap64_id (by omega) (by omega),hK']
  congr 1;omega
theorem heldIntS_ev (n : Nat) (a : Int) (h0 : n ≤ 1000000000000000) (h1 : -1000000000000000 ≤ a) (h2 : a + n ≤ 1000000000000000000) : Ev (fun k => laws_heldIntS.f k (upI a n) a) (a + n) :=
 heldIntS_l0 n [] a (by simpa using h0) h1 h2

theorem heldFlatS_l0 (q : List S79) : ∀ (p : List S79) (a : Int),p.length + q.length ≤ 1000000000 → 0 ≤ a → a + 6 * (q.length : Int) ≤ 1000000000000000000 →
 Ev (fun k => laws_heldFlatS.l0 k (p ++ mkF a q) a (p.length : Int)) (a + 6 * (q.length : Int)):=by
 induction q with
 | nil =>
  intro p a h0 h2 h3
  refine Ev.succ ?_
  simp only [laws_heldFlatS.l0]
  exact Ev.ite_neg (by simp [mkF]) (Ev.some (by simp))
 | cons x q ih =>
  intro p a h0 h2 h3
  simp only [List.length_cons] at h0 h3
  rw [mkF]
  have hr : rd_T79 (p ++ ⟨a,a + 1,a + 2,a + 3,a + 4,a + 5⟩ :: mkF (a + 6) q) (p.length : Int) = ⟨a,a + 1,a + 2,a + 3,a + 4,a + 5⟩:=by unfold rd_T79;exact getD_mid _ _ _ _
  refine Ev.succ ?_
  simp only [laws_heldFlatS.l0,hr]
  rw [wrap64_id (x:=a + 1) (by omega) (by omega),wrap64_id (x:=a + 1 + 1) (by omega) (by omega),wrap64_id (x:=a + 1 + 1 + 1) (by omega) (by omega),wrap64_id (x:=a + 1 + 1 + 1 + 1) (by omega) (by omega),wrap64_id (x:=a + 1 + 1 + 1 + 1 + 1) (by omega) (by omega),wrap64_id (x:=a + 1 + 1 + 1 + 1 + 1 + 1) (by omega) (by omega),wrap_succ (by omega)]
  simp only [show a + 1 + 1 = a + 2 by omega,show a + 2 + 1 = a + 3 by omega,show a + 3 + 1 = a + 4 by omega,show a + 4 + 1 = a + 5 by omega,show a + 5 + 1 = a + 6 by omega]
  refine Ev.ite_pos (by simp;omega) (Ev.ite_pos (by omega) (Ev.ite_pos (by trivial) (Ev.ite_pos (by trivial) (Ev.ite_pos (by trivial) (Ev.ite_pos (by trivial) (Ev.ite_pos (by trivial) (Ev.ite_pos (by trivial) ?_)))))))
  have:=ih (p ++ [⟨a,a + 1,a + 2,a + 3,a + 4,a + 5⟩]) (a + 6) (by simp;omega) (by omega) (by omega)
  rw [List.append_assoc,List.length_append] at this
  refine Ev.cast this ?_
  simp only [List.length_cons]
  omega
theorem heldFlatS_ev (q : List S79) (a : Int) (h0 : q.length ≤ 1048576) (h2 : 0 ≤ a) (h3 : a ≤ 100000000000000000) : Ev (fun k => laws_heldFlatS.f k (mkF a q) a) (a + 6 * (q.length : Int)):=by
 unfold laws_heldFlatS.f
 exact heldFlatS_l0 q [] a (by simp;omega) h2 (by omega)
theorem heldBlockS_l0 (q : List S56) : ∀ (p : List S56) (a : Int),p.length + q.length ≤ 1048576 → (∀ x ∈ q,x.f0.length ≤ 1048576 ∧ x.f3.length ≤ 1048576) → 0 ≤ a → a + (q.length : Int) * 10000000 ≤ 1000000000000000 →
 Ev (fun k => laws_heldBlockS.l0 k (p ++ mkB a q) a (p.length : Int)) (mkBN a q):=by
 induction q with
 | nil =>
  intro p a h0 h1 h2 h3
  refine Ev.succ ?_
  simp only [laws_heldBlockS.l0]
  exact Ev.ite_neg (by simp [mkB]) (Ev.some rfl)
 | cons x q ih =>
  intro p a h0 h1 h2 h3
  simp only [List.length_cons] at h0 h3
  have hx:=h1 x (by simp)
  rw [mkB]
  have hr : ∀ y r,rd_T56 (p ++ y :: r) (p.length : Int) = y:=fun y r => by unfold rd_T56;exact getD_mid _ _ _ _
  refine Ev.succ ?_
  simp only [laws_heldBlockS.l0,hr]
  refine Ev.ite_pos (by simp;omega) (Ev.ite_pos (by omega) (Ev.bind (heldFlatS_ev x.f0 a hx.1 h2 (by omega)) ?_))
  refine Ev.ite_neg (by omega) (Ev.ite_pos (by trivial) ?_)
  rw [wrap64_id (x:=a + 6 * (x.f0.length : Int) + 1) (by omega) (by omega),wrap64_id (x:=a + 6 * (x.f0.length : Int) + 1 + 1) (by omega) (by omega),show a + 6 * (x.f0.length : Int) + 1 + 1 = a + 6 * (x.f0.length : Int) + 2 by omega]
  refine Ev.ite_pos (by trivial) (Ev.bind (heldIntS_ev x.f3.length (a + 6 * (x.f0.length : Int) + 2) (by omega) (by omega) (by omega)) (Ev.ite_neg (by omega) ?_))
  rw [wrap_succ (by omega)]
  have:=ih (p ++ [⟨mkF a x.f0,a + 6 * (x.f0.length : Int),a + 6 * (x.f0.length : Int) + 1,upI (a + 6 * (x.f0.length : Int) + 2) x.f3.length⟩]) (a + 6 * (x.f0.length : Int) + 2 + x.f3.length) (by simp;omega) (fun y hy => h1 y (by simp [hy])) (by omega) (by omega)
  rw [List.append_assoc,List.length_append] at this
  rw [mkBN]
  exact this
theorem heldBlockS_ev (q : List S56) (h0 : q.length ≤ 1048576) (h1 : ∀ x ∈ q,x.f0.length ≤ 1048576 ∧ x.f3.length ≤ 1048576) : Ev (fun k => laws_heldBlockS.f k (mkB 1 q) 1) (mkBN 1 q):=by
 unfold laws_heldBlockS.f
 exact heldBlockS_l0 q [] 1 (by simpa using h0) h1 (by omega) (by omega)
theorem mkBN_le (q : List S56) : ∀ a,(∀ x ∈ q,x.f0.length ≤ 1048576 ∧ x.f3.length ≤ 1048576) → mkBN a q ≤ a + (q.length : Int) * 10000000:=by
 induction q with
 | nil => intro a _;simp [mkBN]
 | cons x q ih =>
  intro a h
  have hx:=h x (by simp)
  have:=ih (a + 6 * (x.f0.length : Int) + 2 + x.f3.length) (fun y hy => h y (by simp [hy]))
  rw [mkBN,List.length_cons]
  omega

theorem findIdx_any {α : Type} (p : α → Bool) (l : List α) : decide ((match l.findIdx? p with | some j => (j : Int) | none => -1) ≥ 0) = l.any p:=by
 rw [Bool.eq_iff_iff,decide_eq_true_iff,List.any_eq_true]
 cases hf : l.findIdx? p with
 | none =>
  rw [List.findIdx?_eq_none_iff] at hf
  constructor
  ·intro h;simp only [ge_iff_le] at h;omega
  ·rintro ⟨x,hx,h⟩;rw [hf x hx] at h;simp at h
 | some j =>
  constructor
  ·intro _
   obtain ⟨hj,h1,_⟩:=List.findIdx?_eq_some_iff_getElem.mp hf
   exact ⟨l[j],List.getElem_mem hj,h1⟩
  ·intro _;simp only [ge_iff_le];omega
/-- A loop that looks for the first element that is so. -/
theorem Ev.index {α : Type} (l : List α) (F : Nat → Int → Option Int) (pr : α → Bool)
 (h0 : Ev (fun k => F k (l.length : Int)) (-1))
 (hs : ∀ p x q,l = p ++ x :: q → pr x = true → Ev (fun k => F k (p.length : Int)) (p.length : Int))
 (hn : ∀ p x q r,l = p ++ x :: q → pr x = false → Ev (fun k => F k ((p.length : Int) + 1)) r → Ev (fun k => F k (p.length : Int)) r) :
 Ev (fun k => F k 0) (match l.findIdx? pr with | some j => (j : Int) | none => -1):=by
 have main : ∀ (q p : List α),l = p ++ q → Ev (fun k => F k (p.length : Int)) (match q.findIdx? pr with | some j => ((p.length + j : Nat) : Int) | none => -1):=by
  intro q
  induction q with
  | nil => intro p e;rw [e,List.append_nil] at h0;exact h0
  | cons x q ih =>
   intro p e
   cases hx : pr x with
   | true =>
    have:=hs p x q e hx
    rw [List.findIdx?_cons,hx];simpa using this
   | false =>
    have:=ih (p ++ [x]) (by rw [e];simp)
    have e2 : ((p ++ [x]).length : Int) = (p.length : Int) + 1:=by simp
    rw [e2] at this
    have:=hn p x q _ e hx this
    rw [List.findIdx?_cons,hx]
    refine Ev.cast this ?_
    cases q.findIdx? pr with
    | none => rfl
    | some j => simp;omega
 have:=main l [] rfl
 refine Ev.cast this ?_
 cases l.findIdx? pr with
 | none => rfl
 | some j => simp

theorem l1Has_ev (l : List Int) (x : Int) (hl : l.length ≤ 1000000000000000) : Ev (fun k => spec_l1Has.f k l x) (decide (x ∈ l)):=by
 unfold spec_l1Has.f
 refine Ev.rangeI l (fun k (_ : Unit) i => spec_l1Has.l0 k x l (l.length : Int) i) (fun _ _ _ => decide (x ∈ l)) (fun _ p => x ∉ p) (fun _ hp => ?_) (fun _ p y q e hp ih => ?_) () (by simp)
 ·refine Ev.succ ?_
  simp only [spec_l1Has.l0]
  exact Ev.ite_neg (by omega) (Ev.some (decide_eq_false hp).symm)
 ·refine Ev.succ ?_
  simp only [spec_l1Has.l0]
  have hlen : p.length < l.length:=by rw [e];simp
  have hr : rd l (p.length : Int) = y:=by rw [e];exact rd_mid _ _ _
  refine Ev.ite_pos (by omega) (Ev.ite_pos (by omega) (Ev.ite_pos (by omega) ?_))
  rw [hr]
  by_cases h : y = x
  ·exact Ev.ite_pos h (Ev.some (by symm;rw [decide_eq_true_iff,e];simp [h]))
  ·refine Ev.ite_neg h ?_
   rw [wrap_succ (by omega)]
   exact ih () (by simp [hp];omega)
theorem contains_ev (l : List Int) (x : Int) (hl : l.length ≤ 1000000000000000) : Ev (fun k => slices_Contains_int_int.f k l x) (decide (x ∈ l)):=by
 unfold slices_Contains_int_int.f
 have h : Ev (fun k => slices_Index_int_int.f k l x) (match l.findIdx? (fun y => decide (x = y)) with | some j => (j : Int) | none => -1):=by
  unfold slices_Index_int_int.f
  refine Ev.index l (fun k i => slices_Index_int_int.l0 k l x (l.length : Int) i) (fun y => decide (x = y)) ?_ (fun p y q e hp => ?_) (fun p y q r e hp ih => ?_)
  ·refine Ev.succ ?_
   simp only [slices_Index_int_int.l0]
   exact Ev.ite_neg (by omega) (Ev.some rfl)
  all_goals
   have hlen : p.length < l.length:=by rw [e];simp
   have hr : rd l (p.length : Int) = y:=by rw [e];exact rd_mid _ _ _
   refine Ev.succ ?_
   simp only [slices_Index_int_int.l0]
   refine Ev.ite_pos (by omega) (Ev.ite_pos (by omega) (Ev.ite_pos (by omega) ?_))
   rw [hr]
  ·exact Ev.ite_pos (by simpa using hp) (Ev.some rfl)
  ·refine Ev.ite_neg (by simpa using hp) ?_
   rw [wrap_succ (by omega)]
   exact ih
 refine Ev.bind h (Ev.some ?_)
 rw [findIdx_any]
 rw [Bool.eq_iff_iff]
 simp

theorem l1In_eq (a b c : Int) : spec_l1In.f a b c = some (decide (b ≤ a ∧ a ≤ c)):=by
 unfold spec_l1In.f
 by_cases h : a ≥ b
 ·rw [if_pos h];simp [show b ≤ a from h]
 ·rw [if_neg h];simp;omega

theorem within_eq (a b c : Int) : impl_within.f a b c = some (decide (b ≤ a ∧ a ≤ c)):=by
 unfold impl_within.f
 by_cases h : a ≥ b
 ·rw [if_pos h];simp [show b ≤ a from h]
 ·rw [if_neg h];simp;omega

/-- What a right flat step is. -/
def okF (x : S79) : Bool:=decide (
 if x.f0 = 1 then (0 ≤ x.f2 ∧ x.f2 ≤ 11) ∧ x.f3 = 0 ∧ x.f4 = 0 ∧ (0 ≤ x.f5 ∧ x.f5 ≤ 65535) ∧ x.f1 = 0
 else if x.f0 = 2 ∨ x.f0 = 4 then (0 ≤ x.f2 ∧ x.f2 ≤ 11) ∧ (0 ≤ x.f3 ∧ x.f3 ≤ 11) ∧ x.f4 = 0 ∧ x.f5 = 0 ∧ x.f1 = 0
 else if x.f0 = 3 then (0 ≤ x.f2 ∧ x.f2 ≤ 11) ∧ (0 ≤ x.f3 ∧ x.f3 ≤ 11) ∧ (0 ≤ x.f4 ∧ x.f4 ≤ 11) ∧ x.f5 = 0 ∧ (4 ≤ x.f1 ∧ x.f1 ≤ 9)
 else if x.f0 = 5 then x.f2 = 0 ∧ (0 ≤ x.f3 ∧ x.f3 ≤ 11) ∧ (0 ≤ x.f4 ∧ x.f4 ≤ 11) ∧ x.f5 = 0 ∧ x.f1 = 0
 else if x.f0 = 6 then x.f2 = 0 ∧ (0 ≤ x.f3 ∧ x.f3 ≤ 11) ∧ x.f4 = 0 ∧ x.f5 = 0 ∧ x.f1 = 0
 else False)
theorem nameF_eq (x : Int) : spec_l6Name.f x = some (decide (0 ≤ x ∧ x ≤ 11)):=by
 unfold spec_l6Name.f;rw [l1In_eq];rfl
theorem specF_eq (k : Nat) (x : S79) : spec_l6Flat.f (k + 2) x.f0 x.f1 x.f2 x.f3 x.f4 x.f5 = some (okF x):=by
 obtain ⟨a0,a1,a2,a3,a4,a5⟩:=x
 unfold spec_l6Flat.f okF
 simp only [spec_l6Flat.j0,spec_l6Flat.j1,nameF_eq,l1In_eq,Option.bind_some,decide_eq_true_eq,beq_iff_eq,bne_iff_ne]
 by_cases c1 : a0 = 1
 ·subst c1
  simp
  repeat' split
  all_goals (first | rfl | (exfalso;omega) | (refine congrArg some ?_;rw [Bool.eq_iff_iff];simp only [decide_eq_true_eq,beq_iff_eq,Bool.and_eq_true,Bool.false_eq_true];omega) | (rw [Bool.eq_iff_iff];simp only [decide_eq_true_eq,beq_iff_eq,Bool.and_eq_true,Bool.false_eq_true];omega) | (intros;omega) | (simp_all <;> intros <;> omega) | (simp_all;done))
 by_cases c2 : a0 = 2
 ·subst c2
  simp
  repeat' split
  all_goals (first | rfl | (exfalso;omega) | (refine congrArg some ?_;rw [Bool.eq_iff_iff];simp only [decide_eq_true_eq,beq_iff_eq,Bool.and_eq_true,Bool.false_eq_true];omega) | (rw [Bool.eq_iff_iff];simp only [decide_eq_true_eq,beq_iff_eq,Bool.and_eq_true,Bool.false_eq_true];omega) | (intros;omega) | (simp_all <;> intros <;> omega) | (simp_all;done))
 by_cases c3 : a0 = 3
 ·subst c3
  simp
  repeat' split
  all_goals (first | rfl | (exfalso;omega) | (refine congrArg some ?_;rw [Bool.eq_iff_iff];simp only [decide_eq_true_eq,beq_iff_eq,Bool.and_eq_true,Bool.false_eq_true];omega) | (rw [Bool.eq_iff_iff];simp only [decide_eq_true_eq,beq_iff_eq,Bool.and_eq_true,Bool.false_eq_true];omega) | (intros;omega) | (simp_all <;> intros <;> omega) | (simp_all;done))
 by_cases c4 : a0 = 4
 ·subst c4
  simp
  repeat' split
  all_goals (first | rfl | (exfalso;omega) | (refine congrArg some ?_;rw [Bool.eq_iff_iff];simp only [decide_eq_true_eq,beq_iff_eq,Bool.and_eq_true,Bool.false_eq_true];omega) | (rw [Bool.eq_iff_iff];simp only [decide_eq_true_eq,beq_iff_eq,Bool.and_eq_true,Bool.false_eq_true];omega) | (intros;omega) | (simp_all <;> intros <;> omega) | (simp_all;done))
 by_cases c5 : a0 = 5
 ·subst c5
  simp
  repeat' split
  all_goals (first | rfl | (exfalso;omega) | (refine congrArg some ?_;rw [Bool.eq_iff_iff];simp only [decide_eq_true_eq,beq_iff_eq,Bool.and_eq_true,Bool.false_eq_true];omega) | (rw [Bool.eq_iff_iff];simp only [decide_eq_true_eq,beq_iff_eq,Bool.and_eq_true,Bool.false_eq_true];omega) | (intros;omega) | (simp_all <;> intros <;> omega) | (simp_all;done))
 by_cases c6 : a0 = 6
 ·subst c6
  simp
  repeat' split
  all_goals (first | rfl | (exfalso;omega) | (refine congrArg some ?_;rw [Bool.eq_iff_iff];simp only [decide_eq_true_eq,beq_iff_eq,Bool.and_eq_true,Bool.false_eq_true];omega) | (rw [Bool.eq_iff_iff];simp only [decide_eq_true_eq,beq_iff_eq,Bool.and_eq_true,Bool.false_eq_true];omega) | (intros;omega) | (simp_all <;> intros <;> omega) | (simp_all;done))
 simp [c1,c2,c3,c4,c5,c6]
theorem specF_ev (x : S79) : Ev (fun k => spec_l6Flat.f k x.f0 x.f1 x.f2 x.f3 x.f4 x.f5) (okF x):=Ev.succ (Ev.succ ⟨0,fun k _ => specF_eq k x⟩)
theorem fieldsF_eq (k : Nat) (a : Int) : impl_fieldsOf.f (k + 1) a = some (if a = 1 then (true,false,false,true,false,true) else if a = 2 ∨ a = 4 then (true,true,false,false,false,true) else if a = 3 then (true,true,true,false,true,true) else if a = 5 then (false,true,true,false,false,true) else if a = 6 then (false,true,false,false,false,true) else (false,false,false,false,false,false)):=by
 unfold impl_fieldsOf.f
 simp only [impl_fieldsOf.j0]
 by_cases c1 : a = 1
 ·simp [c1]
 by_cases c2 : a = 2
 ·simp [c2]
 by_cases c3 : a = 3
 ·simp [c3]
 by_cases c4 : a = 4
 ·simp [c4]
 by_cases c5 : a = 5
 ·simp [c5]
 by_cases c6 : a = 6
 ·simp [c6]
 simp [c1,c2,c3,c4,c5,c6]
theorem flat1_eq (h : Bool) (x : Int) : impl_flatOK_1.f h x 12 = some (decide (if h = true then 0 ≤ x ∧ x ≤ 11 else x = 0)):=by
 unfold impl_flatOK_1.f
 rw [within_eq,wrap64_id (by omega) (by omega)]
 cases h <;> simp <;> split <;> simp_all
theorem flatR_eq (hn hd : Bool) (n d : Int) : impl_flatOK.r hn hd n d = some (decide ((if hn = true then 0 ≤ n ∧ n ≤ 65535 else n = 0) ∧ (if hd = true then 4 ≤ d ∧ d ≤ 9 else d = 0))):=by
 unfold impl_flatOK.r
 unfold impl_isWord.f impl_isTwo.f
 simp only [within_eq,Option.bind_some]
 cases hn <;> cases hd <;> simp <;> repeat' split
 all_goals (first | rfl | (exfalso;omega) | (refine congrArg some ?_;rw [Bool.eq_iff_iff];simp only [decide_eq_true_eq,beq_iff_eq,Bool.and_eq_true,Bool.false_eq_true];omega) | (rw [Bool.eq_iff_iff];simp only [decide_eq_true_eq,beq_iff_eq,Bool.and_eq_true,Bool.false_eq_true];omega) | (intros;omega) | (simp_all <;> intros <;> omega) | (simp_all;done))
theorem implF_eq (k : Nat) (x : S79) : impl_flatOK.f (k + 1) x.f0 x.f1 x.f2 x.f3 x.f4 x.f5 12 = some (okF x):=by
 obtain ⟨a0,a1,a2,a3,a4,a5⟩:=x
 unfold impl_flatOK.f okF
 rw [fieldsF_eq]
 simp only [flat1_eq,flatR_eq,Option.bind_some,decide_eq_true_eq]
 by_cases c1 : a0 = 1
 ·subst c1
  simp
  repeat' split
  all_goals (first | rfl | (exfalso;omega) | (refine congrArg some ?_;rw [Bool.eq_iff_iff];simp only [decide_eq_true_eq,beq_iff_eq,Bool.and_eq_true,Bool.false_eq_true];omega) | (rw [Bool.eq_iff_iff];simp only [decide_eq_true_eq,beq_iff_eq,Bool.and_eq_true,Bool.false_eq_true];omega) | (intros;omega) | (simp_all <;> intros <;> omega) | (simp_all;done))
 by_cases c2 : a0 = 2 ∨ a0 = 4
 ·simp only [if_neg c1,if_pos c2]
  simp
  repeat' split
  all_goals (first | rfl | (exfalso;omega) | (refine congrArg some ?_;rw [Bool.eq_iff_iff];simp only [decide_eq_true_eq,beq_iff_eq,Bool.and_eq_true,Bool.false_eq_true];omega) | (rw [Bool.eq_iff_iff];simp only [decide_eq_true_eq,beq_iff_eq,Bool.and_eq_true,Bool.false_eq_true];omega) | (intros;omega) | (simp_all <;> intros <;> omega) | (simp_all;done))
 by_cases c3 : a0 = 3
 ·subst c3
  simp
  repeat' split
  all_goals (first | rfl | (exfalso;omega) | (refine congrArg some ?_;rw [Bool.eq_iff_iff];simp only [decide_eq_true_eq,beq_iff_eq,Bool.and_eq_true,Bool.false_eq_true];omega) | (rw [Bool.eq_iff_iff];simp only [decide_eq_true_eq,beq_iff_eq,Bool.and_eq_true,Bool.false_eq_true];omega) | (intros;omega) | (simp_all <;> intros <;> omega) | (simp_all;done))
 by_cases c5 : a0 = 5
 ·subst c5
  simp
  repeat' split
  all_goals (first | rfl | (exfalso;omega) | (refine congrArg some ?_;rw [Bool.eq_iff_iff];simp only [decide_eq_true_eq,beq_iff_eq,Bool.and_eq_true,Bool.false_eq_true];omega) | (rw [Bool.eq_iff_iff];simp only [decide_eq_true_eq,beq_iff_eq,Bool.and_eq_true,Bool.false_eq_true];omega) | (intros;omega) | (simp_all <;> intros <;> omega) | (simp_all;done))
 by_cases c6 : a0 = 6
 ·subst c6
  simp
  repeat' split
  all_goals (first | rfl | (exfalso;omega) | (refine congrArg some ?_;rw [Bool.eq_iff_iff];simp only [decide_eq_true_eq,beq_iff_eq,Bool.and_eq_true,Bool.false_eq_true];omega) | (rw [Bool.eq_iff_iff];simp only [decide_eq_true_eq,beq_iff_eq,Bool.and_eq_true,Bool.false_eq_true];omega) | (intros;omega) | (simp_all <;> intros <;> omega) | (simp_all;done))
 simp [c1,c2,c3,c5,c6]
theorem implF_ev (x : S79) : Ev (fun k => impl_flatOK.f k x.f0 x.f1 x.f2 x.f3 x.f4 x.f5 12) (okF x):=Ev.succ ⟨0,fun k _ => implF_eq k x⟩
/-- What a right block is among so many. -/
def okGo (n : Int) (b : S56) : Bool:=decide (
 if b.f1 = 1 then b.f3.length = 1 ∧ b.f2 = 0 else if b.f1 = 2 then b.f3.length = 2 ∧ (0 ≤ b.f2 ∧ b.f2 ≤ 11) else if b.f1 = 5 then (2 ≤ b.f3.length ∧ b.f3.length ≤ 6) ∧ (0 ≤ b.f2 ∧ b.f2 ≤ 11) else (3 ≤ b.f1 ∧ b.f1 ≤ 4) ∧ b.f3.length = 0 ∧ b.f2 = 0)
def okNx (n : Int) (l : List Int) : Bool:=l.all fun y => decide (0 ≤ y ∧ y < n)
def okB (n : Int) (b : S56) : Bool:=b.f0.all okF && (okNx n b.f3 && (okGo n b && decide (b.f0.length ≤ 60)))
def okFlow (l : List S56) : Bool:=l.all (okB (l.length : Int)) && decide (1 ≤ l.length ∧ l.length ≤ 64)
/-- A row of truths, met one by one. -/
theorem Ev.all {α : Type} (l : List α) (F : Nat → Int → Option Bool) (ok : α → Bool) (r : Bool) (hb : l.length ≤ 1000000000000000)
 (hnil : Ev (fun k => F k (l.length : Int)) r)
 (hcons : ∀ p x q,l = p ++ x :: q → (ok x = true → Ev (fun k => F k ((p.length : Int) + 1)) (q.all ok && r)) → Ev (fun k => F k (p.length : Int)) (ok x && (q.all ok && r))) :
 Ev (fun k => F k 0) (l.all ok && r):=by
 have main : ∀ (q p : List α),l = p ++ q → Ev (fun k => F k (p.length : Int)) (q.all ok && r):=by
  intro q
  induction q with
  | nil => intro p e;rw [List.append_nil] at e;subst e;simpa using hnil
  | cons x q ih =>
   intro p e
   rw [List.all_cons,Bool.and_assoc]
   refine hcons p x q e fun _ => ?_
   have:=ih (p ++ [x]) (by rw [e];simp)
   have e2 : ((p ++ [x]).length : Int) = (p.length : Int) + 1:=by simp
   rw [e2] at this
   exact this
 exact main l [] rfl
theorem specB_ev (n : Int) (b : S56) (h0 : b.f0.length ≤ 1000000000000000) (h3 : b.f3.length ≤ 1000000000000000) : Ev (fun k => spec_l6Block.f k b.f0 b.f1 b.f2 b.f3 n) (okB n b):=by
 unfold spec_l6Block.f okB
 refine Ev.all b.f0 (fun k i => spec_l6Block.l0 k n b.f0 (b.f0.length : Int) i b.f0 b.f1 b.f2 b.f3) okF _ h0 ?_ (fun p x q e ih => ?_)
 ·refine Ev.succ ?_
  simp only [spec_l6Block.l0]
  refine Ev.ite_neg (by omega) ?_
  refine Ev.all b.f3 (fun k i => spec_l6Block.l1 k n b.f3 (b.f3.length : Int) i b.f0 b.f1 b.f2 b.f3) (fun y => decide (0 ≤ y ∧ y < n)) _ h3 ?_ (fun p x q e ih => ?_)
  ·refine Ev.succ ?_
   simp only [spec_l6Block.l1,nameF_eq,l1In_eq,Option.bind_some,decide_eq_true_eq]
   refine Ev.ite_neg (by omega) (Ev.const ?_)
   unfold okGo
   repeat' split
   all_goals (first | rfl | (exfalso;omega) | (refine congrArg some ?_;rw [Bool.eq_iff_iff];simp only [decide_eq_true_eq,beq_iff_eq,Bool.and_eq_true,Bool.false_eq_true];omega) | (rw [Bool.eq_iff_iff];simp only [decide_eq_true_eq,beq_iff_eq,Bool.and_eq_true,Bool.false_eq_true];omega) | (intros;omega) | (simp_all <;> intros <;> omega) | (simp_all;done))
  ·refine Ev.succ ?_
   simp only [spec_l6Block.l1]
   have hlen : p.length < b.f3.length:=by rw [e];simp
   have hrd : rd b.f3 (p.length : Int) = x:=by rw [e];exact rd_mid _ _ _
   refine Ev.ite_pos (by omega) (Ev.ite_pos (by omega) (Ev.ite_pos (by omega) ?_))
   rw [hrd]
   by_cases c1 : x < 0
   ·exact Ev.ite_pos c1 (Ev.some (by simp;omega))
   ·refine Ev.ite_neg c1 ?_
    by_cases c2 : x ≥ n
    ·exact Ev.ite_pos c2 (Ev.some (by simp;omega))
    ·refine Ev.ite_neg c2 ?_
     have hd : decide (0 ≤ x ∧ x < n) = true:=by simp;omega
     rw [wrap_succ (by omega),hd,Bool.true_and]
     exact ih hd
 ·refine Ev.succ ?_
  simp only [spec_l6Block.l0]
  have hlen : p.length < b.f0.length:=by rw [e];simp
  have hrd : rd_T79 b.f0 (p.length : Int) = x:=by unfold rd_T79;rw [e];exact getD_mid _ _ _ _
  refine Ev.ite_pos (by omega) (Ev.ite_pos (by omega) (Ev.ite_pos (by omega) ?_))
  rw [hrd]
  refine Ev.bind (specF_ev x) ?_
  by_cases c : okF x = true
  ·rw [c,Bool.true_and,wrap_succ (by omega)]
   exact Ev.ite_pos rfl (ih c)
  ·rw [Bool.not_eq_true] at c
   rw [c,Bool.false_and]
   exact Ev.ite_neg (by decide) (Ev.some rfl)
theorem specFlow_ev (l : List S56) (hl : l.length ≤ 1048576) (hx : ∀ x ∈ l,x.f0.length ≤ 1048576 ∧ x.f3.length ≤ 1048576) : Ev (fun k => spec_GoodFlow.f k l) (okFlow l):=by
 unfold spec_GoodFlow.f okFlow
 refine Ev.all l (fun k i => spec_GoodFlow.l0 k l l (l.length : Int) i) _ _ (by omega) ?_ (fun p x q e ih => ?_)
 ·refine Ev.succ ?_
  simp only [spec_GoodFlow.l0,l1In_eq,Option.bind_some]
  exact Ev.ite_neg (by omega) (Ev.some (decide_eq_decide.mpr (by omega)))
 ·refine Ev.succ ?_
  simp only [spec_GoodFlow.l0]
  have hlen : p.length < l.length:=by rw [e];simp
  have hrd : rd_T56 l (p.length : Int) = x:=by unfold rd_T56;rw [e];exact getD_mid _ _ _ _
  have hxx:=hx x (by rw [e];simp)
  refine Ev.ite_pos (by omega) (Ev.ite_pos (by omega) (Ev.ite_pos (by omega) ?_))
  rw [hrd]
  refine Ev.bind (specB_ev (l.length : Int) x (by omega) (by omega)) ?_
  by_cases c : okB (l.length : Int) x = true
  ·rw [c,Bool.true_and,wrap_succ (by omega)]
   exact Ev.ite_pos rfl (ih c)
  ·rw [Bool.not_eq_true] at c
   rw [c,Bool.false_and]
   exact Ev.ite_neg (by decide) (Ev.some rfl)
/-- IndexFunc: where the first that is not right lies. -/
def ixN {α : Type} (ok : α → Bool) (l : List α) : Int:=match l.findIdx? (fun x => !ok x) with | some i => (i : Int) | none => -1
theorem Ev.ixN {α : Type} (l : List α) (F : Nat → Int → Option Int) (ok : α → Bool) (hb : l.length ≤ 1000000000000000)
 (hnil : Ev (fun k => F k (l.length : Int)) (-1))
 (hbad : ∀ p x q,l = p ++ x :: q → ok x = false → Ev (fun k => F k (p.length : Int)) (p.length : Int))
 (hgood : ∀ p x q r,l = p ++ x :: q → ok x = true → Ev (fun k => F k ((p.length : Int) + 1)) r → Ev (fun k => F k (p.length : Int)) r) :
 ∃ r,Ev (fun k => F k 0) r ∧ (!decide (r ≥ 0)) = l.all ok:=by
 have main : ∀ (q p : List α),l = p ++ q → ∃ r,Ev (fun k => F k (p.length : Int)) r ∧ (!decide (r ≥ 0)) = q.all ok:=by
  intro q
  induction q with
  | nil => intro p e;rw [List.append_nil] at e;subst e;exact ⟨-1,hnil,by simp⟩
  | cons x q ih =>
   intro p e
   rw [List.all_cons]
   cases c : ok x with
   | false => exact ⟨_,hbad p x q e c,by simp <;> omega⟩
   | true =>
    obtain ⟨r,hr,h⟩:=ih (p ++ [x]) (by rw [e];simp)
    have e2 : ((p ++ [x]).length : Int) = (p.length : Int) + 1:=by simp
    rw [e2] at hr
    exact ⟨r,hgood p x q r e c hr,by rw [h];simp⟩
 exact main l [] rfl
theorem codeOK_ev (l : List S79) (hl : l.length ≤ 1000000000000000) : Ev (fun k => impl_codeOK.f k l 12) (decide (l.length ≤ 60) && l.all okF):=by
 unfold impl_codeOK.f
 by_cases c : (l.length : Int) ≤ 60
 ·refine Ev.ite_pos c ?_
  have hI : ∃ r,Ev (fun k => impl_codeOK_1_ix.l0 k 12 l 0) r ∧ (!decide (r ≥ 0)) = l.all okF:=by
   refine Ev.ixN l (fun k i => impl_codeOK_1_ix.l0 k 12 l i) okF hl ?_ (fun p x q e hx => ?_) (fun p x q r e hx ih => ?_)
   ·refine Ev.succ ?_
    simp only [impl_codeOK_1_ix.l0]
    exact Ev.ite_neg (by omega) (Ev.some rfl)
   all_goals
    have hlen : p.length < l.length:=by rw [e];simp
    have hrd : rd_T79 l (p.length : Int) = x:=by unfold rd_T79;rw [e];exact getD_mid _ _ _ _
    refine Ev.succ ?_
    simp only [impl_codeOK_1_ix.l0,impl_codeOK_1.f]
    refine Ev.ite_pos (by omega) (Ev.ite_pos (by omega) ?_)
    rw [hrd]
    refine Ev.bind (Ev.bind (implF_ev x) (Ev.now _)) ?_
    rw [hx]
   ·exact Ev.ite_pos rfl (Ev.some rfl)
   ·refine Ev.ite_neg (by decide) ?_
    rw [wrap_succ (by omega)]
    exact ih
  obtain ⟨r,hr,h⟩:=hI
  refine Ev.bind hr (Ev.some ?_)
  rw [h,show decide (l.length ≤ 60) = true by simp;omega,Bool.true_and]
 ·refine Ev.ite_neg c (Ev.some ?_)
  rw [show decide (l.length ≤ 60) = false by simp;omega,Bool.false_and]
theorem goOK_ev (n : Int) (b : S56) (hn : 1 ≤ n ∧ n ≤ 64) (h3 : b.f3.length ≤ 1000000000000000) : Ev (fun k => impl_goOK.f k b.f1 b.f2 b.f3 12 n) (okNx n b.f3 && okGo n b):=by
 obtain ⟨i,hi,hb⟩:=Ev.ixN b.f3 (fun k i => impl_goOK_1_ix.l0 k n b.f3 i) (fun y => decide (0 ≤ y ∧ y < n)) h3 (Ev.succ (by
  simp only [impl_goOK_1_ix.l0]
  exact Ev.ite_neg (by omega) (Ev.some rfl))) (fun p x q e hx => by
  have hlen : p.length < b.f3.length:=by rw [e];simp
  have hrd : rd b.f3 (p.length : Int) = x:=by rw [e];exact rd_mid _ _ _
  refine Ev.succ ?_
  simp only [impl_goOK_1_ix.l0,impl_goOK_1.f,within_eq,Option.bind_some]
  refine Ev.ite_pos (by omega) (Ev.ite_pos (by omega) ?_)
  rw [hrd,wrap64_id (x:=n - 1) (by omega) (by omega)]
  refine Ev.ite_pos ?_ (Ev.some rfl)
  simp at hx ⊢;omega) (fun p x q r e hx ih => by
  have hlen : p.length < b.f3.length:=by rw [e];simp
  have hrd : rd b.f3 (p.length : Int) = x:=by rw [e];exact rd_mid _ _ _
  refine Ev.succ ?_
  simp only [impl_goOK_1_ix.l0,impl_goOK_1.f,within_eq,Option.bind_some]
  refine Ev.ite_pos (by omega) (Ev.ite_pos (by omega) ?_)
  rw [hrd,wrap64_id (x:=n - 1) (by omega) (by omega),wrap_succ (by omega)]
  refine Ev.ite_neg ?_ ih
  simp at hx ⊢;omega)
 have hr : ∀ (t : Bool),((b.f1 = 2 ∨ b.f1 = 5) ↔ t = true) → (if t = true then 0 ≤ b.f2 ∧ b.f2 ≤ 11 else b.f2 = 0) → impl_goOK.r b.f1 (b.f3.length : Int) = some (okGo n b):=by
  intro t ht hc
  unfold impl_goOK.r okGo
  simp only [within_eq]
  cases t <;> simp at ht hc <;> repeat' split
  all_goals (first | rfl | (exfalso;omega) | (refine congrArg some ?_;rw [Bool.eq_iff_iff];simp only [decide_eq_true_eq,beq_iff_eq,Bool.and_eq_true,Bool.false_eq_true];omega) | (rw [Bool.eq_iff_iff];simp only [decide_eq_true_eq,beq_iff_eq,Bool.and_eq_true,Bool.false_eq_true];omega) | (intros;omega) | (simp_all <;> intros <;> omega) | (simp_all;done))
 have hL : Ev (fun k => (impl_goOK_1_ix.l0 k n b.f3 0).bind fun i => (if i ≥ 0 then some false else some (okGo n b))) (okNx n b.f3 && okGo n b):=by
  refine Ev.bind hi ?_
  have hb' : (!decide (i ≥ 0)) = okNx n b.f3:=hb
  by_cases ci : i ≥ 0
  ·rw [if_pos ci,← hb'];simp [ci];exact Ev.now _
  ·rw [if_neg ci,← hb'];simp [ci];exact Ev.now _
 unfold impl_goOK.f impl_tests.f
 simp only [within_eq,wrap64_id (x:=(12 : Int) - 1) (by omega) (by omega),Option.bind_some]
 by_cases c2 : b.f1 = 2 ∨ b.f1 = 5
 ·have e1 : (if b.f1 = 2 then some true else some (b.f1 == 5)) = some true:=by
   rcases c2 with c | c <;> simp [c]
  rw [e1]
  simp only [Option.bind_some,if_true]
  by_cases c3 : 0 ≤ b.f2 ∧ b.f2 ≤ 12 - 1
  ·simp only [c3,decide_true,and_self,if_true]
   rw [hr true (by simp [c2]) (by simp;omega)]
   exact hL
  ·simp only [c3,decide_false,Bool.false_eq_true,if_false]
   refine Ev.some ?_
   have : okGo n b = false:=by
    unfold okGo
    rcases c2 with c | c <;> simp [c] <;> omega
   rw [this,Bool.and_false]
 ·have e1 : (if b.f1 = 2 then some true else some (b.f1 == 5)) = some false:=by
   rw [if_neg (by omega)];simp;omega
  rw [e1]
  simp only [Option.bind_some,Bool.false_eq_true,if_false]
  by_cases c3 : b.f2 = 0
  ·refine Ev.ite_pos c3 ?_
   rw [hr false (by simp;omega) (by simpa using c3)]
   exact hL
  ·refine Ev.ite_neg c3 (Ev.some ?_)
   have : okGo n b = false:=by
    unfold okGo
    rw [decide_eq_false_iff_not]
    intro hq
    repeat' split at hq
    all_goals (first | exact c3 hq.2 | exact c3 hq.2.2 | omega)
   rw [this,Bool.and_false]
theorem implFlow_ev (l : List S56) (hl : l.length ≤ 1048576) (hx : ∀ x ∈ l,x.f0.length ≤ 1048576 ∧ x.f3.length ≤ 1048576) : Ev (fun k => impl_GoodFlow.f k l) (okFlow l):=by
 unfold impl_GoodFlow.f okFlow
 simp only [within_eq,Option.bind_some,decide_eq_true_eq]
 by_cases c : 1 ≤ (l.length : Int) ∧ (l.length : Int) ≤ 64
 ·refine Ev.ite_pos c ?_
  have hI : ∃ r,Ev (fun k => impl_GoodFlow_1_ix.l0 k (l.length : Int) l 0) r ∧ (!decide (r ≥ 0)) = l.all (okB (l.length : Int)):=by
   refine Ev.ixN l (fun k i => impl_GoodFlow_1_ix.l0 k (l.length : Int) l i) (okB (l.length : Int)) (by omega) ?_ (fun p x q e hx' => ?_) (fun p x q r e hx' ih => ?_)
   ·refine Ev.succ ?_
    simp only [impl_GoodFlow_1_ix.l0]
    exact Ev.ite_neg (by omega) (Ev.some rfl)
   all_goals
    have hlen : p.length < l.length:=by rw [e];simp
    have hrd : rd_T56 l (p.length : Int) = x:=by unfold rd_T56;rw [e];exact getD_mid _ _ _ _
    have hxx:=hx x (by rw [e];simp)
    have hq : Ev (fun k => impl_GoodFlow_1.f k (l.length : Int) x) (!okB (l.length : Int) x):=by
     unfold impl_GoodFlow_1.f
     refine Ev.bind (codeOK_ev x.f0 (by omega)) ?_
     by_cases cc : (decide (x.f0.length ≤ 60) && x.f0.all okF) = true
     ·refine Ev.ite_pos cc (Ev.bind (goOK_ev (l.length : Int) x c (by omega)) (Ev.some ?_))
      rw [Bool.and_eq_true] at cc
      unfold okB
      rw [cc.1,cc.2];simp
     ·refine Ev.ite_neg cc (Ev.some ?_)
      unfold okB
      cases h1 : x.f0.all okF
      ·simp
      ·cases h2 : decide (x.f0.length ≤ 60)
       ·simp
       ·rw [h1,h2] at cc;exact absurd rfl cc
    refine Ev.succ ?_
    simp only [impl_GoodFlow_1_ix.l0]
    refine Ev.ite_pos (by omega) (Ev.ite_pos (by omega) ?_)
    rw [hrd]
    refine Ev.bind hq ?_
    rw [hx']
   ·exact Ev.ite_pos rfl (Ev.some rfl)
   ·refine Ev.ite_neg (by decide) ?_
    rw [wrap_succ (by omega)]
    exact ih
  obtain ⟨r,hr,h⟩:=hI
  refine Ev.bind hr (Ev.some ?_)
  rw [h,show decide (1 ≤ l.length ∧ l.length ≤ 64) = true by simp;omega,Bool.and_true]
 ·refine Ev.ite_neg c (Ev.some ?_)
  rw [show decide (1 ≤ l.length ∧ l.length ≤ 64) = false by simp;omega,Bool.and_false]

/-- A graph whose goals lie in it. -/
structure GW (g : List (List Int)) : Prop where
 lo : 1 ≤ g.length
 hi : g.length ≤ 64
 row : ∀ r ∈ g,r.length ≤ 1048576
 inn : ∀ r ∈ g,∀ x ∈ r,0 ≤ x ∧ x < g.length
/-- Row x of g. -/
def rowG (g : List (List Int)) (x : Int) : List Int:=g.getD x.toNat []
theorem rowG_mem {g : List (List Int)} {x : Int} (h0 : 0 ≤ x) (h1 : x < g.length) : rowG g x ∈ g:=by
 unfold rowG
 rw [List.getD_eq_getElem?_getD,List.getElem?_eq_getElem (by omega)]
 exact List.getElem_mem _
/-- Where each block goes. -/
def nx (l : List S56) : List (List Int):=l.map (fun b => b.f3)
theorem nx_len (l : List S56) : (nx l).length = l.length:=List.length_map _
theorem nx_row (l : List S56) {x : Int} (h0 : 0 ≤ x) (h1 : x < l.length) : (rd_T56 l x).f3 = rowG (nx l) x:=by
 unfold rd_T56 rowG nx
 rw [List.getD_eq_getElem?_getD,List.getD_eq_getElem?_getD,List.getElem?_map,List.getElem?_eq_getElem (show x.toNat < l.length by omega)]
 rfl
theorem okFlow_GW {l : List S56} (h : okFlow l = true) (hx : ∀ x ∈ l,x.f0.length ≤ 1048576 ∧ x.f3.length ≤ 1048576) : GW (nx l):=by
 unfold okFlow at h
 rw [Bool.and_eq_true,decide_eq_true_iff,List.all_eq_true] at h
 refine ⟨by rw [nx_len];exact h.2.1,by rw [nx_len];exact h.2.2,fun r hr => ?_,fun r hr x hxr => ?_⟩
 ·obtain ⟨b,hb,rfl⟩:=List.mem_map.1 hr;exact (hx b hb).2
 ·obtain ⟨b,hb,rfl⟩:=List.mem_map.1 hr
  have:=h.1 b hb
  unfold okB okNx at this
  rw [Bool.and_eq_true,Bool.and_eq_true] at this
  have:=List.all_eq_true.1 this.2.1 x hxr
  rw [decide_eq_true_iff] at this
  rw [nx_len];exact this

def passRow (av : List Int) : List Int → List Int → List Int
 | s,[] => s
 | s,x :: q => passRow av (if x ∈ av ∨ x ∈ s then s else s ++ [x]) q
def walkG (g : List (List Int)) (av : List Int) : Nat → List Int → Nat → List Int
 | 0,s,_ => s
 | f + 1,s,i => if i < s.length then walkG g av f (passRow av s (rowG g (rd s i))) (i + 1) else s
theorem passRow_ok {n : Nat} (av : List Int) : ∀ (q s : List Int),OkS n s → (∀ x ∈ q,0 ≤ x ∧ x < n) → OkS n (passRow av s q) ∧ s.length ≤ (passRow av s q).length
 | [],s,h,_ => ⟨h,Nat.le_refl _⟩
 | x :: q,s,h,hq => by
  rw [passRow]
  have hx:=hq x (by simp)
  by_cases hc : x ∈ av ∨ x ∈ s
  ·rw [if_pos hc];exact passRow_ok av q s h (fun y hy => hq y (by simp [hy]))
  ·rw [if_neg hc]
   have:=passRow_ok av q (s ++ [x]) (h.snoc (fun e => hc (.inr e)) hx.1 hx.2) (fun y hy => hq y (by simp [hy]))
   simp only [List.length_append,List.length_singleton] at this
   exact ⟨this.1,by omega⟩
theorem walkG_ok {g : List (List Int)} (hg : GW g) (av : List Int) : ∀ (f : Nat) (s : List Int) (i : Nat),OkS g.length s → OkS g.length (walkG g av f s i)
 | 0,s,i,h => h
 | f + 1,s,i,h => by
  rw [walkG]
  by_cases hi : i < s.length
  ·rw [if_pos hi]
   have hm:=h.2 _ (rd_mem hi)
   exact walkG_ok hg av f _ _ (passRow_ok av _ _ h (hg.inn _ (rowG_mem hm.1 hm.2))).1
  ·rw [if_neg hi];exact h
/-- The marks of what lies in s. -/
def boolsG (n : Nat) (s : List Int) : List Bool:=tab n (fun x => decide (x ∈ s))
theorem boolsG_rd {n : Nat} (s : List Int) {x : Int} (h0 : 0 ≤ x) (h1 : x < n) : rdOf false (boolsG n s) x = decide (x ∈ s):=tab_getD _ h0 h1 _
theorem boolsG_snoc (n : Nat) (s : List Int) {x : Int} (h0 : 0 ≤ x) : (boolsG n s).set x.toNat true = boolsG n (s ++ [x]):=by
 unfold boolsG
 rw [tab_set _ h0]
 refine tab_congr fun y _ _ => ?_
 by_cases h : y = x
 ·rw [if_pos h];simp [h]
 ·rw [if_neg h];simp [h]
theorem iPass_ev {g : List (List Int)} (hg : GW g) (av : List Int) (hl : av.length ≤ 1000) (row : List Int) (hrow : row.length ≤ 1048576) (hin : ∀ x ∈ row,0 ≤ x ∧ x < g.length) (s : List Int) (hs : OkS g.length s) (i : Nat) (hi : i < s.length) {r : List Bool}
 (hnext : OkS g.length (passRow av s row) → s.length ≤ (passRow av s row).length → Ev (fun k => impl_reach.l0 k g av (boolsG g.length (passRow av s row)) ((passRow av s row).drop (i + 1))) r) :
 Ev (fun k => impl_reach.l1 k g av (boolsG g.length s) (s.drop i) row (row.length : Int) 0) r:=by
 have main:=Ev.rangeI row (fun k b j => impl_reach.l1 k g av (boolsG g.length b) (b.drop i) row (row.length : Int) j) (fun b p q => r) (fun b p => OkS g.length b ∧ s.length ≤ b.length ∧ ∀ q,row = p ++ q → passRow av s row = passRow av b q) (fun b hb => ?_) (fun b p x q e hb ih => ?_) s ⟨hs,Nat.le_refl _,fun q e => by rw [e];rfl⟩
 ·exact main
 ·refine Ev.succ ?_
  simp only [impl_reach.l1]
  have:=hb.2.2 [] (by simp)
  rw [passRow] at this
  rw [← this] at hb ⊢
  refine Ev.ite_neg (by omega) (Ev.ite_pos (by rw [List.length_drop];omega) ?_)
  rw [List.drop_drop]
  exact hnext hb.1 hb.2.1
 ·refine Ev.succ ?_
  simp only [impl_reach.l1]
  have hlen : p.length < row.length:=by rw [e];simp
  have hr : rd row (p.length : Int) = x:=by rw [e];exact rd_mid _ _ _
  have hx:=hin x (by rw [e];simp)
  have hle:=hb.1.le
  have hhi:=hg.hi
  refine Ev.ite_pos (by omega) (Ev.ite_pos (by omega) (Ev.ite_pos (by omega) ?_))
  rw [hr,wrap_succ (by omega)]
  have he:=hb.2.2 (x :: q) e
  rw [passRow] at he
  refine Ev.ite_pos hx.1 (Ev.ite_pos (by unfold boolsG;rw [tab_length];exact hx.2) ?_)
  rw [boolsG_rd b hx.1 hx.2]
  by_cases h2 : x ∈ b
  ·refine Ev.ite_pos (by simpa using h2) (ih b ⟨hb.1,hb.2.1,fun q' e' => ?_⟩)
   rw [he,if_pos (.inr h2)]
   rw [e] at e';simp at e';rw [e']
  ·refine Ev.ite_neg (by simpa using h2) (Ev.bind (contains_ev av x (by omega)) ?_)
   by_cases h1 : x ∈ av
   ·refine Ev.ite_pos (by simpa using h1) (ih b ⟨hb.1,hb.2.1,fun q' e' => ?_⟩)
    rw [he,if_pos (.inl h1)]
    rw [e] at e';simp at e';rw [e']
   ·have h3 : ¬ (x ∈ av ∨ x ∈ b):=fun h => h.elim h1 h2
    have h4:=ih (b ++ [x]) ⟨hb.1.snoc h2 hx.1 hx.2,by simp;omega,fun q' e' => by
     rw [he,if_neg h3]
     rw [e] at e';simp at e';rw [e']⟩
    refine Ev.ite_neg (by simpa using h1) (Ev.ite_pos (by rw [List.length_drop];omega) ?_)
    rw [boolsG_snoc _ _ hx.1]
    rw [List.drop_append_of_le_length (by omega)] at h4
    exact h4
theorem iReach_l0 {g : List (List Int)} (hg : GW g) (av : List Int) (hl : av.length ≤ 1000) : ∀ (f : Nat) (s : List Int) (i : Nat),OkS g.length s → i ≤ s.length → i + f = g.length + 1 → Ev (fun k => impl_reach.l0 k g av (boolsG g.length s) (s.drop i)) (boolsG g.length (walkG g av f s i))
 | 0,s,i,h,hle,hi => by
  have:=h.le
  omega
 | f + 1,s,i,h,hle,hi => by
  have:=h.le
  have hhi:=hg.hi
  refine Ev.succ ?_
  simp only [impl_reach.l0]
  rw [walkG]
  by_cases hc : i < s.length
  ·rw [if_pos hc]
   have hm:=h.2 _ (rd_mem hc)
   have hr:=rowG_mem hm.1 hm.2
   have hd : rd (s.drop i) 0 = rd s i:=by
    unfold rd
    simp [List.getD_eq_getElem?_getD,List.getElem?_drop]
   rw [hd]
   refine Ev.ite_pos (by rw [List.length_drop];omega) (Ev.ite_pos (by rw [List.length_drop];omega) (Ev.ite_pos hm.1 (Ev.ite_pos hm.2 ?_)))
   exact iPass_ev hg av hl (rowG g (rd s i)) (hg.row _ hr) (hg.inn _ hr) s h i hc fun h' hle' => iReach_l0 hg av hl f _ (i + 1) h' (by omega) (by omega)
  ·rw [if_neg hc]
   exact Ev.ite_neg (by rw [List.length_drop];omega) (Ev.some rfl)
theorem boolsG_nil (n : Nat) : List.replicate n false = boolsG n []:=by
 unfold boolsG
 rw [tab_rep]
 exact tab_congr fun x _ _ => by simp
/-- From any start, nothing left out. -/
theorem iReach1_ev {g : List (List Int)} (hg : GW g) (a : Int) (h0 : 0 ≤ a) (h1 : a < g.length) : Ev (fun k => impl_reach.f k g a []) (boolsG g.length (walkG g [] (g.length + 1) [a] 0)):=by
 have hhi:=hg.hi
 unfold impl_reach.f
 refine Ev.ite_pos (by omega) (Ev.ite_pos (by omega) (Ev.bind (Ev.now _) (Ev.bind (contains_ev [] a (by simp)) ?_)))
 rw [Int.toNat_natCast,boolsG_nil]
 refine Ev.ite_neg (by simp) (Ev.ite_pos (by omega) (Ev.ite_pos (by unfold boolsG;rw [tab_length];omega) ?_))
 rw [boolsG_snoc _ _ (by omega)]
 exact iReach_l0 hg [] (by simp) _ [a] 0 ⟨by simp,fun x hx => by rw [List.mem_singleton] at hx;omega⟩ (by simp) (by omega)

theorem l1Put_at (p q : List Int) (x : Int) (hl : (p ++ q).length ≤ 1000) (hp : ∀ y ∈ p,y < x) {r : List Int} (h : Ev (fun k => spec_l1Put.l0 k (p ++ q) x (p.length : Int)) r) : Ev (fun k => spec_l1Put.f k (p ++ q) x) r:=by
 unfold spec_l1Put.f
 refine Ev.rangeP p (fun k (_ : Unit) i => spec_l1Put.l0 k (p ++ q) x i) (fun _ _ _ => r) (fun _ => h) (fun _ p' y q' e ih => ?_) ()
 refine Ev.succ ?_
 simp only [spec_l1Put.l0]
 have hlen : p'.length < p.length:=by rw [e];simp
 have hlen2 : (p ++ q).length = p.length + q.length:=by simp
 have hr : rd (p ++ q) (p'.length : Int) = y:=by rw [e,List.append_assoc];exact rd_mid _ _ _
 have hy:=hp y (by rw [e];simp)
 refine Ev.ite_pos (by omega) (Ev.ite_pos (by omega) (Ev.ite_pos (by omega) ?_))
 rw [wrap_succ (by omega)]
 exact ih ()
theorem l1Put_same (p q : List Int) (x : Int) (hl : (p ++ x :: q).length ≤ 1000) (hp : ∀ y ∈ p,y < x) : Ev (fun k => spec_l1Put.f k (p ++ x :: q) x) (p ++ x :: q):=by
 refine l1Put_at p (x :: q) x hl hp (Ev.succ ?_)
 simp only [spec_l1Put.l0]
 have hlen2 : (p ++ x :: q).length = p.length + q.length + 1:=by simp;omega
 have hr : rd (p ++ x :: q) (p.length : Int) = x:=rd_mid _ _ _
 exact Ev.ite_pos (by omega) (Ev.ite_pos (by omega) (Ev.ite_neg (by omega) (Ev.ite_pos hr (Ev.some rfl))))
theorem l1Put_new (p q : List Int) (x : Int) (hl : (p ++ q).length ≤ 1000) (hp : ∀ y ∈ p,y < x) (hq : ∀ y ∈ q,x < y) : Ev (fun k => spec_l1Put.f k (p ++ q) x) (p ++ x :: q):=by
 refine l1Put_at p q x hl hp (Ev.succ ?_)
 simp only [spec_l1Put.l0]
 have hlen2 : (p ++ q).length = p.length + q.length:=by simp
 cases q with
 | nil =>
  rw [List.append_nil] at *
  refine Ev.ite_neg (by omega) (Ev.ite_pos (by omega) (Ev.ite_pos (by omega) ?_))
  rw [Int.toNat_natCast,List.take_length,List.drop_length]
  refine Ev.bind (Ev.now _) (Ev.ite_pos (by simp;omega) (Ev.bind (Ev.now _) (Ev.ite_pos (by simp;omega) (Ev.bind (Ev.now _) (Ev.bind (Ev.now _) (Ev.ite_pos (by simp;omega) (Ev.some ?_)))))))
  simp
 | cons y q =>
  have hr : rd (p ++ y :: q) (p.length : Int) = y:=rd_mid _ _ _
  have hy:=hq y (by simp)
  have hlen3 : (y :: q).length = q.length + 1:=rfl
  refine Ev.ite_pos (by omega) (Ev.ite_pos (by omega) (Ev.ite_neg (by omega) (Ev.ite_neg (by omega) (Ev.ite_pos (by omega) ?_))))
  rw [Int.toNat_natCast,List.take_left,List.drop_left]
  refine Ev.bind (Ev.now _) (Ev.ite_pos (by simp;omega) (Ev.bind (Ev.now _) (Ev.ite_pos (by simp;omega) (Ev.bind (Ev.now _) (Ev.bind (Ev.now _) (Ev.ite_pos (by have h9:=hl;simp at h9 ⊢;omega) (Ev.some ?_)))))))
  simp
/-- What lies in s, of the numbers below n, rising. -/
def srt (n : Nat) (s : List Int) : List Int:=(upto n).filter (fun x => decide (x ∈ s))
theorem srt_mem {n : Nat} {s : List Int} {x : Int} : x ∈ srt n s ↔ (0 ≤ x ∧ x < n) ∧ x ∈ s:=by
 rw [srt,List.mem_filter,upto_mem,decide_eq_true_iff]
theorem srt_len (n : Nat) (s : List Int) : (srt n s).length ≤ n:=by
 have:=List.length_filter_le (fun x => decide (x ∈ s)) (upto n)
 rw [upto_length] at this
 exact this
theorem upto_split {n m : Nat} (h : m < n) : ∃ t,upto n = upto m ++ (m : Int) :: t ∧ ∀ y ∈ t,(m : Int) < y:=by
 induction n with
 | zero => omega
 | succ n ih =>
  by_cases e : m = n
  ·subst e
   exact ⟨[],by rw [upto_succ],by simp⟩
  ·obtain ⟨t,ht,hy⟩:=ih (by omega)
   refine ⟨t ++ [(n : Int)],by rw [upto_succ,ht];simp,fun y hy' => ?_⟩
   rcases List.mem_append.1 hy' with h' | h'
   ·exact hy y h'
   ·rw [List.mem_singleton] at h';omega
theorem l1Put_srt (n : Nat) (hn : n ≤ 1000) (s : List Int) (x : Int) (h0 : 0 ≤ x) (h1 : x < n) : Ev (fun k => spec_l1Put.f k (srt n s) x) (srt n (s ++ [x])):=by
 obtain ⟨m,rfl⟩ : ∃ m : Nat,x = m:=⟨x.toNat,by omega⟩
 obtain ⟨t,ht,hy⟩:=upto_split (n:=n) (m:=m) (by omega)
 have hlen:=srt_len n s
 have hlt : ∀ y ∈ (upto m).filter (fun x => decide (x ∈ s)),y < (m : Int):=fun y hy => (upto_mem.1 (List.mem_filter.1 hy).1).2
 have hgt : ∀ y ∈ t.filter (fun x => decide (x ∈ s)),(m : Int) < y:=fun y hy' => hy y (List.mem_filter.1 hy').1
 have e1 : (upto m).filter (fun x => decide (x ∈ s ++ [(m : Int)])) = (upto m).filter (fun x => decide (x ∈ s)):=List.filter_congr fun y hy' => by
  have:=(upto_mem.1 hy').2
  rw [Bool.eq_iff_iff,decide_eq_true_iff,decide_eq_true_iff,List.mem_append,List.mem_singleton]
  exact ⟨fun h => h.elim id (fun e => by omega),.inl⟩
 have e2 : t.filter (fun x => decide (x ∈ s ++ [(m : Int)])) = t.filter (fun x => decide (x ∈ s)):=List.filter_congr fun y hy' => by
  have:=hy y hy'
  rw [Bool.eq_iff_iff,decide_eq_true_iff,decide_eq_true_iff,List.mem_append,List.mem_singleton]
  exact ⟨fun h => h.elim id (fun e => by omega),.inl⟩
 have e3 : srt n (s ++ [(m : Int)]) = (upto m).filter (fun x => decide (x ∈ s)) ++ (m : Int) :: t.filter (fun x => decide (x ∈ s)):=by
  unfold srt
  rw [ht,List.filter_append,List.filter_cons_of_pos (by simp),e1,e2]
 by_cases hm : (m : Int) ∈ s
 ·have e4 : srt n s = (upto m).filter (fun x => decide (x ∈ s)) ++ (m : Int) :: t.filter (fun x => decide (x ∈ s)):=by
   unfold srt
   rw [ht,List.filter_append,List.filter_cons_of_pos (by simpa using hm)]
  rw [e3,e4]
  exact l1Put_same _ _ _ (by rw [← e4];omega) hlt
 ·have e4 : srt n s = (upto m).filter (fun x => decide (x ∈ s)) ++ t.filter (fun x => decide (x ∈ s)):=by
   unfold srt
   rw [ht,List.filter_append,List.filter_cons_of_neg (by simpa using hm)]
  rw [e3,e4]
  exact l1Put_new _ _ _ (by rw [← e4];omega) hlt hgt
theorem srt_add (n : Nat) (s : List Int) (x : Int) (h0 : 0 ≤ x) (h1 : x < n) (hx : x ∉ s) : (srt n (s ++ [x])).length = (srt n s).length + 1:=by
 obtain ⟨m,rfl⟩ : ∃ m : Nat,x = m:=⟨x.toNat,by omega⟩
 obtain ⟨t,ht,hy⟩:=upto_split (n:=n) (m:=m) (by omega)
 have e1 : (upto m).filter (fun x => decide (x ∈ s ++ [(m : Int)])) = (upto m).filter (fun x => decide (x ∈ s)):=List.filter_congr fun y hy' => by
  have:=(upto_mem.1 hy').2
  rw [Bool.eq_iff_iff,decide_eq_true_iff,decide_eq_true_iff,List.mem_append,List.mem_singleton]
  exact ⟨fun h => h.elim id (fun e => by omega),.inl⟩
 have e2 : t.filter (fun x => decide (x ∈ s ++ [(m : Int)])) = t.filter (fun x => decide (x ∈ s)):=List.filter_congr fun y hy' => by
  have:=hy y hy'
  rw [Bool.eq_iff_iff,decide_eq_true_iff,decide_eq_true_iff,List.mem_append,List.mem_singleton]
  exact ⟨fun h => h.elim id (fun e => by omega),.inl⟩
 unfold srt
 rw [ht,List.filter_append,List.filter_append,List.filter_cons_of_pos (by simp),List.filter_cons_of_neg (by simpa using hx),e1,e2]
 simp only [List.length_append,List.length_cons]
 omega
theorem listOf_ev (n : Nat) (hn : n ≤ 1000000) (B : Int → Bool) : Ev (fun k => impl_listOf.f k (tab n B)) ((upto n).filter B):=by
 unfold impl_listOf.f
 rw [tab_length]
 refine Ev.count n (fun k x i => impl_listOf.l0 k x (tab n B) (n : Int) i) (fun m => (upto m).filter B) _ ?_ (fun m hm ih => ?_)
 ·refine Ev.succ ?_
  simp only [impl_listOf.l0]
  exact Ev.ite_neg (by omega) (Ev.some rfl)
 ·refine Ev.succ ?_
  simp only [impl_listOf.l0]
  have hl:=List.length_filter_le B (upto m)
  rw [upto_length] at hl
  refine Ev.ite_pos (by omega) (Ev.ite_pos (by omega) (Ev.ite_pos (by rw [tab_length];omega) ?_))
  rw [show rdOf false (tab n B) (m : Int) = B m from tab_getD _ (by omega) (by omega) _,wrap_succ (by omega)]
  rw [filter_upto_succ] at ih
  cases hB : B m with
  | true =>
   rw [hB,if_pos rfl] at ih
   exact Ev.ite_pos rfl (Ev.ite_pos (by omega) ih)
  | false =>
   rw [hB,if_neg (by simp),List.append_nil] at ih
   exact Ev.ite_neg (by simp) ih

theorem nexts_ev (l : List S56) (hl : l.length ≤ 1048576) : Ev (fun k => impl_nexts.f k l) (nx l):=by
 unfold impl_nexts.f
 refine Ev.ite_pos (by omega) (Ev.ite_pos (by omega) ?_)
 rw [Int.toNat_natCast]
 have:=Ev.rangeI (ρ:=List (List Int)) l (fun k b i => impl_nexts.l0 k b l (l.length : Int) i) (fun _ _ _ => nx l) (fun b p => b = nx p ++ List.replicate (l.length - p.length) []) (fun b hb => ?_) (fun b p x q e hb ih => ?_) (List.replicate l.length []) (by simp [nx])
 ·exact this
 ·refine Ev.succ ?_
  simp only [impl_nexts.l0]
  refine Ev.ite_neg (by omega) (Ev.some ?_)
  rw [hb];simp
 ·refine Ev.succ ?_
  simp only [impl_nexts.l0]
  have hlen : p.length < l.length:=by rw [e];simp
  have hbl : b.length = l.length:=by rw [hb];simp [nx];omega
  have hrd : rd_T56 l (p.length : Int) = x:=by unfold rd_T56;rw [e];exact getD_mid _ _ _ _
  refine Ev.ite_pos (by omega) (Ev.ite_pos (by omega) (Ev.ite_pos (by omega) (Ev.ite_pos (by omega) ?_)))
  rw [hrd,Int.toNat_natCast,wrap_succ (by omega)]
  refine ih _ ?_
  have hpl : p.length = (nx p).length:=(nx_len p).symm
  rw [hb,show l.length - p.length = (l.length - (p ++ [x]).length) + 1 from by simp;omega,List.replicate_succ,hpl,set_mid]
  simp [nx]

theorem s6Pass_ev {l : List S56} (hg : GW (nx l)) (row : List Int) (hrow : row.length ≤ 1048576) (hin : ∀ x ∈ row,0 ≤ x ∧ x < (nx l).length) (s : List Int) (hs : OkS (nx l).length s) (i : Int) {r : List Int}
 (hnext : OkS (nx l).length (passRow [] s row) → Ev (fun k => spec_l6Reach.l0 k l (passRow [] s row) (wrap64 (i + 1))) r) : Ev (fun k => spec_l6Reach.l1 k l s i row (row.length : Int) 0) r:=by
 have main:=Ev.rangeI row (fun k s j => spec_l6Reach.l1 k l s i row (row.length : Int) j) (fun b p q => r) (fun b p => OkS (nx l).length b ∧ ∀ q,row = p ++ q → passRow [] s row = passRow [] b q) (fun b hb => ?_) (fun b p x q e hb ih => ?_) s ⟨hs,fun q e => by rw [e];rfl⟩
 ·exact main
 ·refine Ev.succ ?_
  simp only [spec_l6Reach.l1]
  have:=hb.2 [] (by simp)
  rw [passRow] at this
  rw [← this] at hb ⊢
  exact Ev.ite_neg (by omega) (hnext hb.1)
 ·refine Ev.succ ?_
  simp only [spec_l6Reach.l1]
  have hlen : p.length < row.length:=by rw [e];simp
  have hr : rd row (p.length : Int) = x:=by rw [e];exact rd_mid _ _ _
  have hx:=hin x (by rw [e];simp)
  have hle:=hb.1.le
  have hhi:=hg.hi
  refine Ev.ite_pos (by omega) (Ev.ite_pos (by omega) (Ev.ite_pos (by omega) ?_))
  rw [hr,wrap_succ (by omega)]
  have he:=hb.2 (x :: q) e
  rw [passRow] at he
  refine Ev.bind (l1Has_ev b x (by omega)) ?_
  by_cases h2 : x ∈ b
  ·refine Ev.ite_pos (by simpa using h2) (ih b ⟨hb.1,fun q' e' => ?_⟩)
   rw [he,if_pos (.inr h2)]
   rw [e] at e';simp at e';rw [e']
  ·have h3 : ¬ (x ∈ ([] : List Int) ∨ x ∈ b):=fun h => h.elim (by simp) h2
   refine Ev.ite_neg (by simpa using h2) (Ev.ite_pos (by omega) (ih (b ++ [x]) ⟨hb.1.snoc h2 hx.1 hx.2,fun q' e' => ?_⟩))
   rw [he,if_neg h3]
   rw [e] at e';simp at e';rw [e']
theorem srt_nil (n : Nat) : srt n [] = []:=by
 unfold srt
 rw [List.filter_eq_nil_iff];simp
theorem s6Put_ev (n : Nat) (hn : n ≤ 1000) (s : List Int) (hs : OkS n s) : Ev (fun k => spec_l6Reach.l2 k [] s (s.length : Int) 0) (srt n s):=by
 have hle:=hs.le
 refine Ev.rangeI s (fun k b i => spec_l6Reach.l2 k b s (s.length : Int) i) (fun _ _ _ => srt n s) (fun b p => b = srt n p) (fun b hb => ?_) (fun b p x q e hb ih => ?_) [] (srt_nil n).symm
 ·refine Ev.succ ?_
  simp only [spec_l6Reach.l2]
  exact Ev.ite_neg (by omega) (Ev.some hb)
 ·refine Ev.succ ?_
  simp only [spec_l6Reach.l2]
  have hlen : p.length < s.length:=by rw [e];simp
  have hr : rd s (p.length : Int) = x:=by rw [e];exact rd_mid _ _ _
  have hx:=hs.2 x (by rw [e];simp)
  refine Ev.ite_pos (by omega) (Ev.ite_pos (by omega) (Ev.ite_pos (by omega) ?_))
  rw [hr,wrap_succ (by omega),hb]
  exact Ev.bind (l1Put_srt n hn p x hx.1 hx.2) (ih _ rfl)
theorem s6_l0 {l : List S56} (hg : GW (nx l)) : ∀ (f : Nat) (s : List Int) (i : Nat),OkS (nx l).length s → i + f = (nx l).length + 1 → Ev (fun k => spec_l6Reach.l0 k l s (i : Int)) (srt (nx l).length (walkG (nx l) [] f s i))
 | 0,s,i,h,hi => by
  have:=h.le
  have hhi:=hg.hi
  refine Ev.succ ?_
  simp only [spec_l6Reach.l0]
  exact Ev.ite_neg (by omega) (s6Put_ev _ (by omega) s h)
 | f + 1,s,i,h,hi => by
  have:=h.le
  have hhi:=hg.hi
  have hll:=nx_len l
  refine Ev.succ ?_
  simp only [spec_l6Reach.l0]
  rw [walkG]
  by_cases hc : i < s.length
  ·rw [if_pos hc]
   have hm:=h.2 _ (rd_mem hc)
   have hr:=rowG_mem hm.1 hm.2
   refine Ev.ite_pos (by omega) (Ev.ite_pos (by omega) (Ev.ite_pos hm.1 (Ev.ite_pos (by omega) ?_)))
   rw [nx_row l hm.1 (by omega)]
   refine s6Pass_ev hg (rowG (nx l) (rd s i)) (hg.row _ hr) (hg.inn _ hr) s h i fun h' => ?_
   rw [wrap_succ (by omega)]
   exact s6_l0 hg f _ (i + 1) h' (by omega)
  ·rw [if_neg hc]
   exact Ev.ite_neg (by omega) (s6Put_ev _ (by omega) s h)
/-- What is come to from the first block. -/
def reach6 (l : List S56) : List Int:=srt (nx l).length (walkG (nx l) [] ((nx l).length + 1) [0] 0)
theorem s6Reach_ev {l : List S56} (hg : GW (nx l)) : Ev (fun k => spec_l6Reach.f k l) (reach6 l):=by
 have hlo:=hg.lo
 unfold spec_l6Reach.f reach6
 exact s6_l0 hg _ [0] 0 ⟨by simp,fun x hx => by rw [List.mem_singleton] at hx;omega⟩ (by omega)
theorem rise_ext : ∀ (a b : List Int),a.Pairwise (· < ·) → b.Pairwise (· < ·) → (∀ x,x ∈ a ↔ x ∈ b) → a = b
 | [],[],_,_,_ => rfl
 | [],y :: b,_,_,h => absurd ((h y).2 (by simp)) (by simp)
 | x :: a,[],_,_,h => absurd ((h x).1 (by simp)) (by simp)
 | x :: a,y :: b,ha,hb,h => by
  rw [List.pairwise_cons] at ha hb
  have hxy : x = y:=by
   rcases List.mem_cons.1 ((h x).1 (by simp)) with e | e
   ·exact e
   rcases List.mem_cons.1 ((h y).2 (by simp)) with e' | e'
   ·exact e'.symm
   have h1:=hb.1 x e
   have h2:=ha.1 y e'
   omega
  subst hxy
  congr 1
  refine rise_ext a b ha.2 hb.2 fun z => ?_
  constructor
  ·intro hz
   rcases List.mem_cons.1 ((h z).1 (List.mem_cons_of_mem _ hz)) with e | e
   ·subst e;have:=ha.1 z hz;omega
   ·exact e
  ·intro hz
   rcases List.mem_cons.1 ((h z).2 (List.mem_cons_of_mem _ hz)) with e | e
   ·subst e;have:=hb.1 z hz;omega
   ·exact e
theorem upto_rise (n : Nat) : (upto n).Pairwise (· < ·):=by
 induction n with
 | zero => exact List.Pairwise.nil
 | succ n ih =>
  rw [upto_succ,List.pairwise_append]
  refine ⟨ih,by simp,fun a ha b hb => ?_⟩
  rw [List.mem_singleton] at hb
  have:=(upto_mem.1 ha).2
  omega

/-- How many of a row lie below x, and a block's new number. -/
def cntL (L : List Int) (x : Int) : Int:=(L.countP (fun y => decide (y < x)) : Nat)
def numF (L : List Int) (x : Int) : Int:=if x ∈ L then cntL L x else -1
theorem cntL_zero (L : List Int) (h : ∀ y ∈ L,0 ≤ y) : cntL L 0 = 0:=by
 unfold cntL
 rw [List.countP_eq_zero.2 (fun y hy => by have:=h y hy;simp;omega)];rfl
theorem cntL_succ0 (L : List Int) (x : Int) : L.countP (fun y => decide (y < x + 1)) = L.countP (fun y => decide (y < x)) + L.count x:=by
 induction L with
 | nil => rfl
 | cons y q ih =>
  rw [List.countP_cons,List.countP_cons,List.count_cons,ih]
  by_cases h1 : y < x
  ·have h2 : y < x + 1:=by omega
   have h3 : ¬ y = x:=by omega
   simp [h1,h2,h3];omega
  ·by_cases h3 : y = x
   ·subst h3
    have h2 : y < y + 1:=by omega
    simp [h2];omega
   ·have h2 : ¬ y < x + 1:=by omega
    simp [h1,h2,h3]
theorem cntL_in {L : List Int} (hn : L.Nodup) {x : Int} (h : x ∈ L) : cntL L (x + 1) = cntL L x + 1:=by
 unfold cntL
 rw [cntL_succ0,hn.count,if_pos h];rfl
theorem cntL_out {L : List Int} {x : Int} (h : x ∉ L) : cntL L (x + 1) = cntL L x:=by
 unfold cntL
 rw [cntL_succ0,List.count_eq_zero.2 h];rfl
theorem cntL_le (L : List Int) (x : Int) : 0 ≤ cntL L x ∧ cntL L x ≤ L.length:=by
 have:=List.countP_le_length (p:=fun y => decide (y < x)) (l:=L)
 unfold cntL
 omega
theorem cntL_mid (p q : List Int) (x : Int) (h : (p ++ x :: q).Pairwise (· < ·)) : cntL (p ++ x :: q) x = p.length:=by
 rw [List.pairwise_append] at h
 obtain ⟨_,h2,h3⟩:=h
 rw [List.pairwise_cons] at h2
 unfold cntL
 rw [List.countP_append,List.countP_eq_length.2 (fun y hy => by simpa using h3 y hy x (by simp)),List.countP_eq_zero.2 (fun y hy => ?_)]
 ·rfl
 ·rcases List.mem_cons.1 hy with rfl | hy
  ·simp
  ·have:=h2.1 y hy;simp;omega
/-- A block with new numbers. -/
def blkF (l : List S56) (L : List Int) (x : Int) : S56:=⟨(rd_T56 l x).f0,(rd_T56 l x).f1,(rd_T56 l x).f2,(rowG (nx l) x).map (numF L)⟩
def trimF (l : List S56) : List S56 × List Int:=((reach6 l).map (blkF l (reach6 l)),tab (nx l).length (numF (reach6 l)))
theorem rd6_mem {l : List S56} {x : Int} (h0 : 0 ≤ x) (h1 : x < l.length) : rd_T56 l x ∈ l:=by
 unfold rd_T56
 rw [List.getD_eq_getElem?_getD,List.getElem?_eq_getElem (by omega)]
 exact List.getElem_mem _
theorem r6_rise (l : List S56) : (reach6 l).Pairwise (· < ·):=(upto_rise _).filter _
theorem r6_in (l : List S56) : ∀ k ∈ reach6 l,0 ≤ k ∧ k < (nx l).length:=fun k hk => (srt_mem.1 hk).1
theorem r6_le (l : List S56) : (reach6 l).length ≤ (nx l).length:=srt_len _ _
theorem r6_nodup (l : List S56) : (reach6 l).Nodup:=(r6_rise l).imp (fun h => by omega)
theorem sTrimRow_ev (l : List S56) (L ns : List Int) (N : Int → Int) (out : List S56) (i : Int) (code : List S79) (go tst : Int) (row : List Int) (hrow : row.length ≤ 1048576) (hin : ∀ x ∈ row,0 ≤ x ∧ x < ns.length ∧ rd ns x = N x) (hout : out.length ≤ 1000000) {r : List S56 × List Int}
 (hnext : Ev (fun k => spec_l6Trim.l1 k l L ns (out ++ [⟨code,go,tst,row.map N⟩]) (wrap64 (i + 1))) r) : Ev (fun k => spec_l6Trim.l2 k l L ns out i code go tst row 0) r:=by
 have main:=Ev.rangeI row (fun k (b : List Int) j => spec_l6Trim.l2 k l L ns out i code go tst b j) (fun _ _ _ => r) (fun b p => b = p.map N ++ row.drop p.length) (fun b hb => ?_) (fun b p x q e hb ih => ?_) row (by simp)
 ·exact main
 ·refine Ev.succ ?_
  simp only [spec_l6Trim.l2]
  rw [List.drop_length,List.append_nil] at hb
  subst hb
  exact Ev.ite_neg (by simp) (Ev.ite_pos (by omega) hnext)
 ·refine Ev.succ ?_
  simp only [spec_l6Trim.l2]
  have hl : p.length < row.length:=by rw [e];simp
  have hx:=hin x (by rw [e];simp)
  have hd : row.drop p.length = x :: q:=by rw [e];simp
  rw [hd] at hb
  have hm : ((p.map N).length : Int) = (p.length : Int):=by simp
  have hr : rd b (p.length : Int) = x:=by rw [hb,← hm];exact rd_mid _ _ _
  have hbl : b.length = row.length:=by rw [hb,e];simp
  refine Ev.ite_pos (by omega) (Ev.ite_pos (by omega) ?_)
  rw [hr,wrap_succ (by omega),hx.2.2]
  refine Ev.ite_pos hx.1 (Ev.ite_pos hx.2.1 (ih _ ?_))
  have hd2 : row.drop (p ++ [x]).length = q:=by rw [e];simp
  have hs : (p.map N ++ x :: q).set (p.map N).length (N x) = p.map N ++ N x :: q:=set_mid _ _ _ _
  rw [List.length_map] at hs
  rw [hb,hd2,Int.toNat_natCast,hs]
  simp
theorem sTrimOut_ev {l : List S56} (hg : GW (nx l)) (hx : ∀ x ∈ l,x.f0.length ≤ 1048576 ∧ x.f3.length ≤ 1048576) : Ev (fun k => spec_l6Trim.l1 k l (reach6 l) (tab (nx l).length (numF (reach6 l))) [] 0) (trimF l):=by
 have hhi:=hg.hi
 have hnl:=nx_len l
 have hme:=r6_in l
 have hll:=r6_le l
 unfold trimF
 unfold blkF
 generalize reach6 l = L at hme hll ⊢
 refine Ev.rangeI L (fun k (b : List S56) j => spec_l6Trim.l1 k l L (tab (nx l).length (numF L)) b j) (fun _ _ _ => (L.map (fun x => (⟨(rd_T56 l x).f0,(rd_T56 l x).f1,(rd_T56 l x).f2,(rowG (nx l) x).map (numF L)⟩ : S56)),tab (nx l).length (numF L))) (fun b p => b = p.map (fun x => (⟨(rd_T56 l x).f0,(rd_T56 l x).f1,(rd_T56 l x).f2,(rowG (nx l) x).map (numF L)⟩ : S56))) (fun b hb => ?_) (fun b p x q e hb ih => ?_) _ rfl
 ·refine Ev.succ ?_
  simp only [spec_l6Trim.l1]
  exact Ev.ite_neg (by omega) (Ev.some (by rw [hb]))
 ·refine Ev.succ ?_
  simp only [spec_l6Trim.l1]
  have hl : p.length < L.length:=by rw [e];simp
  have hr : rd L (p.length : Int) = x:=by rw [e];exact rd_mid _ _ _
  have hxx:=hme x (by rw [e];simp)
  have hm:=rowG_mem (g:=nx l) hxx.1 hxx.2
  have hxm:=hx _ (rd6_mem (l:=l) hxx.1 (by omega))
  refine Ev.ite_pos (by omega) (Ev.ite_pos (by omega) ?_)
  rw [hr]
  refine Ev.ite_pos hxx.1 (Ev.ite_pos (by omega) ?_)
  have hown : spec_l6Own.f (rd_T56 l x).f0 (rd_T56 l x).f1 (rd_T56 l x).f2 (rd_T56 l x).f3 = some ((rd_T56 l x).f0,(rd_T56 l x).f1,(rd_T56 l x).f2,(rd_T56 l x).f3):=by
   unfold spec_l6Own.f
   simp only [Option.bind_some,List.length_nil,List.nil_append]
   rw [if_pos (by omega),if_pos (by omega)]
  refine Ev.bind (Ev.const hown) ?_
  dsimp only
  rw [nx_row l hxx.1 (by omega)]
  refine sTrimRow_ev l L _ (numF L) b _ _ _ _ (rowG (nx l) x) (hg.row _ hm) (fun y hy => ?_) (by rw [hb];simp;omega) ?_
  ·have hy2:=hg.inn _ hm y hy
   refine ⟨hy2.1,by rw [tab_length];exact hy2.2,?_⟩
   exact tab_getD _ hy2.1 hy2.2 _
  ·rw [wrap_succ (by omega)]
   refine ih _ ?_
   rw [hb,List.map_append]
   rfl
theorem iTrimRow_ev (l : List S56) (L ns : List Int) (N : Int → Int) (out : List S56) (i : Int) (code : List S79) (go tst : Int) (row : List Int) (hrow : row.length ≤ 1048576) (hin : ∀ x ∈ row,0 ≤ x ∧ x < ns.length ∧ rd ns x = N x) (hout : out.length ≤ 1000000) {r : List S56 × List Int}
 (hnext : Ev (fun k => impl_trim.l1 k l L ns (out ++ [⟨code,go,tst,row.map N⟩]) (wrap64 (i + 1))) r) : Ev (fun k => impl_trim.l2 k l L ns out i code go tst row 0) r:=by
 have main:=Ev.rangeI row (fun k (b : List Int) j => impl_trim.l2 k l L ns out i code go tst b j) (fun _ _ _ => r) (fun b p => b = p.map N ++ row.drop p.length) (fun b hb => ?_) (fun b p x q e hb ih => ?_) row (by simp)
 ·exact main
 ·refine Ev.succ ?_
  simp only [impl_trim.l2]
  rw [List.drop_length,List.append_nil] at hb
  subst hb
  exact Ev.ite_neg (by simp) (Ev.ite_pos (by omega) hnext)
 ·refine Ev.succ ?_
  simp only [impl_trim.l2]
  have hl : p.length < row.length:=by rw [e];simp
  have hx:=hin x (by rw [e];simp)
  have hd : row.drop p.length = x :: q:=by rw [e];simp
  rw [hd] at hb
  have hm : ((p.map N).length : Int) = (p.length : Int):=by simp
  have hr : rd b (p.length : Int) = x:=by rw [hb,← hm];exact rd_mid _ _ _
  have hbl : b.length = row.length:=by rw [hb,e];simp
  refine Ev.ite_pos (by omega) (Ev.ite_pos (by omega) ?_)
  rw [hr,wrap_succ (by omega),hx.2.2]
  refine Ev.ite_pos hx.1 (Ev.ite_pos hx.2.1 (ih _ ?_))
  have hd2 : row.drop (p ++ [x]).length = q:=by rw [e];simp
  have hs : (p.map N ++ x :: q).set (p.map N).length (N x) = p.map N ++ N x :: q:=set_mid _ _ _ _
  rw [List.length_map] at hs
  rw [hb,hd2,Int.toNat_natCast,hs]
  simp
theorem iTrimOut_ev {l : List S56} (hg : GW (nx l)) (hx : ∀ x ∈ l,x.f0.length ≤ 1048576 ∧ x.f3.length ≤ 1048576) : Ev (fun k => impl_trim.l1 k l (reach6 l) (tab (nx l).length (numF (reach6 l))) [] 0) (trimF l):=by
 have hhi:=hg.hi
 have hnl:=nx_len l
 have hme:=r6_in l
 have hll:=r6_le l
 unfold trimF
 unfold blkF
 generalize reach6 l = L at hme hll ⊢
 refine Ev.rangeI L (fun k (b : List S56) j => impl_trim.l1 k l L (tab (nx l).length (numF L)) b j) (fun _ _ _ => (L.map (fun x => (⟨(rd_T56 l x).f0,(rd_T56 l x).f1,(rd_T56 l x).f2,(rowG (nx l) x).map (numF L)⟩ : S56)),tab (nx l).length (numF L))) (fun b p => b = p.map (fun x => (⟨(rd_T56 l x).f0,(rd_T56 l x).f1,(rd_T56 l x).f2,(rowG (nx l) x).map (numF L)⟩ : S56))) (fun b hb => ?_) (fun b p x q e hb ih => ?_) _ rfl
 ·refine Ev.succ ?_
  simp only [impl_trim.l1]
  exact Ev.ite_neg (by omega) (Ev.some (by rw [hb]))
 ·refine Ev.succ ?_
  simp only [impl_trim.l1]
  have hl : p.length < L.length:=by rw [e];simp
  have hr : rd L (p.length : Int) = x:=by rw [e];exact rd_mid _ _ _
  have hxx:=hme x (by rw [e];simp)
  have hm:=rowG_mem (g:=nx l) hxx.1 hxx.2
  have hxm:=hx _ (rd6_mem (l:=l) hxx.1 (by omega))
  refine Ev.ite_pos (by omega) (Ev.ite_pos (by omega) ?_)
  rw [hr]
  refine Ev.ite_pos hxx.1 (Ev.ite_pos (by omega) ?_)
  have hc1 : slices_Clone_impl_Flat.f (rd_T56 l x).f0 = some (rd_T56 l x).f0:=by
   unfold slices_Clone_impl_Flat.f
   rw [if_pos (by omega)]
  have hc2 : slices_Clone_int_int.f (rd_T56 l x).f3 = some (rd_T56 l x).f3:=by
   unfold slices_Clone_int_int.f
   rw [if_pos (by omega)]
  refine Ev.bind (Ev.const hc1) (Ev.bind (Ev.const hc2) ?_)
  rw [nx_row l hxx.1 (by omega)]
  refine iTrimRow_ev l L _ (numF L) b _ _ _ _ (rowG (nx l) x) (hg.row _ hm) (fun y hy => ?_) (by rw [hb];simp;omega) ?_
  ·have hy2:=hg.inn _ hm y hy
   refine ⟨hy2.1,by rw [tab_length];exact hy2.2,?_⟩
   exact tab_getD _ hy2.1 hy2.2 _
  ·rw [wrap_succ (by omega)]
   refine ih _ ?_
   rw [hb,List.map_append]
   rfl
theorem sTrim6_ev {l : List S56} (hg : GW (nx l)) (hx : ∀ x ∈ l,x.f0.length ≤ 1048576 ∧ x.f3.length ≤ 1048576) : Ev (fun k => spec_l6Trim.f k l) (trimF l):=by
 have hhi:=hg.hi
 have hnl:=nx_len l
 have hme:=r6_in l
 have hll:=r6_le l
 have hnd:=r6_nodup l
 have hend:=sTrimOut_ev hg hx
 unfold spec_l6Trim.f
 refine Ev.bind (s6Reach_ev hg) ?_
 generalize reach6 l = L at hme hll hnd hend ⊢
 have main:=Ev.count l.length (fun k (b : List Int × Int) i => spec_l6Trim.l0 k l L b.1 b.2 i) (fun m => (tab m (numF L),cntL L (m : Int))) (trimF l) ?_ (fun m hm ih => ?_)
 ·have h0:=cntL_zero L (fun y hy => (hme y hy).1)
  have main' : Ev (fun k => spec_l6Trim.l0 k l L (tab 0 (numF L)) (cntL L 0) 0) (trimF l):=main
  rw [h0] at main'
  exact main'
 ·refine Ev.succ ?_
  simp only [spec_l6Trim.l0]
  rw [← hnl] at *
  exact Ev.ite_neg (by omega) hend
 ·refine Ev.succ ?_
  simp only [spec_l6Trim.l0]
  have hc:=cntL_le L (m : Int)
  refine Ev.ite_pos (by omega) (Ev.bind (l1Has_ev L (m : Int) (by omega)) ?_)
  have ih' : Ev (fun k => spec_l6Trim.l0 k l L (tab (m + 1) (numF L)) (cntL L ((m + 1 : Nat) : Int)) ((m : Int) + 1)) (trimF l):=by
   have:=ih
   simpa using this
  rw [tab_succ] at ih'
  have e1 : ((m + 1 : Nat) : Int) = (m : Int) + 1:=by omega
  rw [e1] at ih'
  rw [wrap_succ (n:=m) (by omega)]
  by_cases c : (m : Int) ∈ L
  ·refine Ev.ite_pos (by simpa using c) (Ev.ite_pos (by rw [tab_length];omega) ?_)
   rw [wrap64_id (by omega) (by omega)]
   rw [cntL_in hnd c,show numF L (m : Int) = cntL L (m : Int) by unfold numF;rw [if_pos c]] at ih'
   exact ih'
  ·refine Ev.ite_neg (by simpa using c) (Ev.ite_pos (by rw [tab_length];omega) ?_)
   rw [cntL_out c,show numF L (m : Int) = -1 by unfold numF;rw [if_neg c]] at ih'
   exact ih'
theorem iTrim6_ev {l : List S56} (hl : l.length ≤ 1048576) (hg : GW (nx l)) (hx : ∀ x ∈ l,x.f0.length ≤ 1048576 ∧ x.f3.length ≤ 1048576) : Ev (fun k => impl_trim.f k l) (trimF l):=by
 have hlo:=hg.lo
 have hhi:=hg.hi
 have hnl:=nx_len l
 have hme:=r6_in l
 have hll:=r6_le l
 have hri:=r6_rise l
 have hend:=iTrimOut_ev hg hx
 unfold impl_trim.f
 have hrp : slices_Repeat_int_int.f [-1] (l.length : Int) = some (List.replicate l.length (-1)):=by
  unfold slices_Repeat_int_int.f
  dsimp only
  rw [if_pos (by omega),Int.toNat_natCast]
 refine Ev.bind (Ev.const hrp) (Ev.bind (nexts_ev l hl) (Ev.bind (iReach1_ev hg 0 (by omega) (by omega)) ?_))
 have hlo2 : Ev (fun k => impl_listOf.f k (boolsG (nx l).length (walkG (nx l) [] ((nx l).length + 1) [0] 0))) (reach6 l):=listOf_ev (nx l).length (by omega) (fun x => decide (x ∈ walkG (nx l) [] ((nx l).length + 1) [0] 0))
 refine Ev.bind hlo2 ?_
 generalize reach6 l = L at hme hll hri hend ⊢
 rw [← hnl,tab_rep]
 have main:=Ev.rangeI L (fun k (b : List Int) j => impl_trim.l0 k l L b j) (fun _ _ _ => trimF l) (fun b p => b = tab (nx l).length (fun t => if t ∈ p then cntL L t else -1)) (fun b hb => ?_) (fun b p x q e hb ih => ?_) (tab (nx l).length (fun _ => -1)) (tab_congr fun t _ _ => by simp)
 ·exact main
 ·refine Ev.succ ?_
  simp only [impl_trim.l0]
  refine Ev.ite_neg (by omega) ?_
  rw [hb]
  exact hend
 ·refine Ev.succ ?_
  simp only [impl_trim.l0]
  have hl : p.length < L.length:=by rw [e];simp
  have hr : rd L (p.length : Int) = x:=by rw [e];exact rd_mid _ _ _
  have hxx:=hme x (by rw [e];simp)
  have hbl : b.length = (nx l).length:=by rw [hb,tab_length]
  have hcm : cntL L x = p.length:=by rw [e];exact cntL_mid p q x (by rw [← e];exact hri)
  refine Ev.ite_pos (by omega) (Ev.ite_pos (by omega) ?_)
  rw [hr,wrap_succ (by omega)]
  refine Ev.ite_pos hxx.1 (Ev.ite_pos (by omega) (ih _ ?_))
  rw [hb,tab_set _ hxx.1]
  refine tab_congr fun t _ _ => ?_
  by_cases c : t = x
  ·subst c
   rw [if_pos rfl,if_pos (by simp),hcm]
  ·rw [if_neg c]
   simp [c]
def trimInF (l : List S56) : List S56 × List Int × Bool:=if okFlow l = true then ((trimF l).1,(trimF l).2,true) else ([],[],false)
theorem trimInF_ok (l : List S56) (hl : l.length ≤ 1048576) (hx : ∀ x ∈ l,x.f0.length ≤ 1048576 ∧ x.f3.length ≤ 1048576) : (trimInF l).1.length ≤ 1048576 ∧ (trimInF l).2.1.length ≤ 1048576 ∧ ∀ x ∈ (trimInF l).1,x.f0.length ≤ 1048576 ∧ x.f3.length ≤ 1048576:=by
 have hnl:=nx_len l
 unfold trimInF
 split
 ·have hll:=r6_le l
  refine ⟨by unfold trimF;rw [List.length_map];omega,by unfold trimF;rw [tab_length];omega,fun x hm => ?_⟩
  unfold trimF at hm
  obtain ⟨y,hy,rfl⟩:=List.mem_map.1 hm
  have hy2:=r6_in l y hy
  have h1:=hx _ (rd6_mem (l:=l) hy2.1 (by omega))
  have h2:=nx_row l hy2.1 (by omega)
  unfold blkF
  refine ⟨h1.1,?_⟩
  rw [List.length_map,← h2]
  exact h1.2
 ·exact ⟨by simp,by simp,by simp⟩

def predL6 (g : List (List Int)) (U : List Int) (t : Int) : List Int:=U.filter (fun k => decide (t ∈ rowG g k))
theorem srt_ext {n : Nat} {s t : List Int} (h : ∀ x,x ∈ s ↔ x ∈ t) : srt n s = srt n t:=by
 unfold srt
 exact List.filter_congr fun x _ => by rw [decide_eq_decide];exact h x
theorem srt_rise {n : Nat} {s : List Int} (hp : s.Pairwise (· < ·)) (h : ∀ x ∈ s,0 ≤ x ∧ x < n) : srt n s = s :=
 rise_ext _ _ ((upto_rise n).filter _) hp fun x => by rw [srt_mem];exact ⟨fun hx => hx.2,fun hx => ⟨h x hx,hx⟩⟩
theorem predRow6_ev {g : List (List Int)} (hg : GW g) (L : List Int) (kk : Int) (i : Int) (B : Int → List Int) (hB : ∀ t,(B t).length ≤ 1000 ∧ ∀ y ∈ B t,y < kk) (row : List Int) (hrow : row.length ≤ 1048576) (hin : ∀ x ∈ row,0 ≤ x ∧ x < g.length) {r : List (List Int)}
 (hnext : Ev (fun k => impl_preds.l0 k g (tab g.length (fun t => B t ++ (if t ∈ row then [kk] else []))) L (L.length : Int) (wrap64 (i + 1))) r) :
 Ev (fun k => impl_preds.l1 k g (tab g.length B) kk L (L.length : Int) i row (row.length : Int) 0) r:=by
 refine Ev.rangeI row (fun k (b : List (List Int)) j => impl_preds.l1 k g b kk L (L.length : Int) i row (row.length : Int) j) (fun _ _ _ => r) (fun b p => b = tab g.length (fun t => B t ++ (if t ∈ p then [kk] else []))) (fun b hb => ?_) (fun b p x q e hb ih => ?_) _ (tab_congr fun t _ _ => by simp)
 ·refine Ev.succ ?_
  simp only [impl_preds.l1]
  subst hb
  exact Ev.ite_neg (by omega) hnext
 ·refine Ev.succ ?_
  simp only [impl_preds.l1]
  have hl : p.length < row.length:=by rw [e];simp
  have hr : rd row (p.length : Int) = x:=by rw [e];exact rd_mid _ _ _
  have hx:=hin x (by rw [e];simp)
  have hbx:=hB x
  have hbl : b.length = g.length:=by rw [hb,tab_length]
  have hrd : rd_L3 b x = B x ++ (if x ∈ p then [kk] else []):=by
   rw [hb]
   show (tab _ _).getD x.toNat [] = _
   rw [tab_getD _ hx.1 hx.2]
  refine Ev.ite_pos (by omega) (Ev.ite_pos (by omega) (Ev.ite_pos (by omega) ?_))
  rw [hr,hrd,wrap_succ (by omega)]
  refine Ev.ite_pos hx.1 (Ev.ite_pos (by rw [hbl];exact hx.2) ?_)
  by_cases cp : x ∈ p
  ·rw [if_pos cp]
   have hsame : b = tab g.length (fun t => B t ++ (if t ∈ p ++ [x] then [kk] else [])):=by
    rw [hb]
    refine tab_congr fun t _ _ => ?_
    by_cases c : t = x
    ·subst c;simp [cp]
    ·simp [c]
   have hlen : ((B x ++ [kk]).length : Int) = ((B x).length : Int) + 1:=by simp
   have hw : wrap64 (((B x ++ [kk]).length : Int) - 1) = ((B x).length : Int):=by rw [hlen,wrap64_id (by omega) (by omega)];omega
   refine Ev.ite_neg (by omega) ?_
   rw [hw]
   refine Ev.ite_pos (by omega) (Ev.ite_pos (by omega) (Ev.ite_pos (rd_mid (B x) [] kk) ?_))
   exact ih _ hsame
  ·rw [if_neg cp,List.append_nil]
   have hset : b.set x.toNat (B x ++ [kk]) = tab g.length (fun t => B t ++ (if t ∈ p ++ [x] then [kk] else [])):=by
    rw [hb,tab_set _ hx.1]
    refine tab_congr fun t _ _ => ?_
    by_cases c : t = x
    ·rw [if_pos c,c,if_pos (by simp)]
    ·rw [if_neg c]
     simp [c]
   by_cases c : ((B x).length : Int) = 0
   ·refine Ev.ite_pos c (Ev.ite_pos (by omega) ?_)
    rw [hset]
    exact ih _ rfl
   ·have hw : wrap64 (((B x).length : Int) - 1) = ((B x).length : Int) - 1:=wrap64_id (by omega) (by omega)
    refine Ev.ite_neg c ?_
    rw [hw]
    refine Ev.ite_pos (by omega) (Ev.ite_pos (by omega) (Ev.ite_neg ?_ (Ev.ite_pos (by omega) ?_)))
    ·have hm:=rd_mem (s:=B x) (i:=(B x).length - 1) (by omega)
     have he : (((B x).length - 1 : Nat) : Int) = ((B x).length : Int) - 1:=by omega
     rw [he] at hm
     have:=hbx.2 _ hm
     omega
    ·rw [hset]
     exact ih _ rfl
theorem reach6_rise (l : List S56) : (reach6 l).Pairwise (· < ·):=(upto_rise _).filter _
theorem reach6_in (l : List S56) : ∀ k ∈ reach6 l,0 ≤ k ∧ k < (nx l).length:=fun k hk => (srt_mem.1 hk).1
theorem reach6_le (l : List S56) : (reach6 l).length ≤ (nx l).length:=srt_len _ _
theorem preds6_ev {l : List S56} (hg : GW (nx l)) : Ev (fun k => impl_preds.f k (nx l)) (tab (nx l).length (predL6 (nx l) (reach6 l))):=by
 have hlo:=hg.lo
 have hhi:=hg.hi
 unfold impl_preds.f
 refine Ev.ite_pos (by omega) (Ev.ite_pos (by omega) (Ev.bind (iReach1_ev hg 0 (by omega) (by omega)) ?_))
 have hlo : Ev (fun k => impl_listOf.f k (boolsG (nx l).length (walkG (nx l) [] ((nx l).length + 1) [0] 0))) (reach6 l):=listOf_ev (nx l).length (by omega) (fun x => decide (x ∈ walkG (nx l) [] ((nx l).length + 1) [0] 0))
 refine Ev.bind hlo ?_
 rw [Int.toNat_natCast,tab_rep]
 unfold predL6
 have hri:=reach6_rise l
 have hme:=reach6_in l
 have hll:=reach6_le l
 generalize reach6 l = L at hll hri hme ⊢
 generalize nx l = g at hg hme hll hhi ⊢
 refine Ev.rangeI L (fun k (b : List (List Int)) j => impl_preds.l0 k g b L (L.length : Int) j) (fun _ _ _ => tab g.length (fun t => L.filter (fun k => decide (t ∈ rowG g k)))) (fun b p => b = tab g.length (fun t => p.filter (fun k => decide (t ∈ rowG g k)))) (fun b hb => ?_) (fun b p x q e hb ih => ?_) _ rfl
 ·refine Ev.succ ?_
  simp only [impl_preds.l0]
  exact Ev.ite_neg (by omega) (Ev.some hb)
 ·refine Ev.succ ?_
  simp only [impl_preds.l0]
  have hl : p.length < L.length:=by rw [e];simp
  have hr : rd L (p.length : Int) = x:=by rw [e];exact rd_mid _ _ _
  have hx:=hme x (by rw [e];simp)
  have hm:=rowG_mem (g:=g) hx.1 hx.2
  refine Ev.ite_pos (by omega) (Ev.ite_pos (by omega) (Ev.ite_pos (by omega) ?_))
  rw [hr]
  refine Ev.ite_pos hx.1 (Ev.ite_pos hx.2 ?_)
  rw [hb]
  refine predRow6_ev hg L x _ _ (fun t => ⟨?_,fun y hy => ?_⟩) (rowG g x) (hg.row _ hm) (hg.inn _ hm) ?_
  ·have:=List.length_filter_le (fun k => decide (t ∈ rowG g k)) p
   omega
  ·rw [e,List.pairwise_append] at hri
   exact hri.2.2 y (List.mem_filter.1 hy).1 x (by simp)
  ·rw [wrap_succ (by omega)]
   refine ih _ (tab_congr fun t _ _ => ?_)
   rw [List.filter_append]
   congr 1
   by_cases c : t ∈ rowG g x <;> simp [c]
theorem sPred6Row_ev {l : List S56} (hg : GW (nx l)) (L : List Int) (kk : Int) (hk : 0 ≤ kk ∧ kk < (nx l).length) (i : Int) (C : Int → List Int) (row : List Int) (hrow : row.length ≤ 1048576) (hin : ∀ x ∈ row,0 ≤ x ∧ x < (nx l).length) {r : List (List Int)}
 (hnext : Ev (fun k => spec_l6Preds.l0 k l L (tab (nx l).length (fun t => srt (nx l).length (C t ++ (if t ∈ row then [kk] else [])))) (wrap64 (i + 1))) r) :
 Ev (fun k => spec_l6Preds.l1 k l L row kk (tab (nx l).length (fun t => srt (nx l).length (C t))) i 0) r:=by
 have hhi:=hg.hi
 refine Ev.rangeI row (fun k (b : List (List Int)) j => spec_l6Preds.l1 k l L row kk b i j) (fun _ _ _ => r) (fun b p => b = tab (nx l).length (fun t => srt (nx l).length (C t ++ (if t ∈ p then [kk] else [])))) (fun b hb => ?_) (fun b p x q e hb ih => ?_) _ (tab_congr fun t _ _ => by simp)
 ·refine Ev.succ ?_
  simp only [spec_l6Preds.l1]
  subst hb
  exact Ev.ite_neg (by omega) hnext
 ·refine Ev.succ ?_
  simp only [spec_l6Preds.l1]
  have hl : p.length < row.length:=by rw [e];simp
  have hr : rd row (p.length : Int) = x:=by rw [e];exact rd_mid _ _ _
  have hx:=hin x (by rw [e];simp)
  have hbl : b.length = (nx l).length:=by rw [hb,tab_length]
  refine Ev.ite_pos (by omega) (Ev.ite_pos (by omega) ?_)
  rw [hr,wrap_succ (by omega)]
  refine Ev.ite_pos hx.1 (Ev.ite_pos (by rw [hbl];exact hx.2) ?_)
  have hrd : b.getD x.toNat [] = srt (nx l).length (C x ++ (if x ∈ p then [kk] else [])):=by rw [hb,tab_getD _ hx.1 hx.2]
  rw [hrd]
  refine Ev.bind (l1Put_srt _ (by omega) _ kk hk.1 hk.2) (ih _ ?_)
  rw [hb,tab_set _ hx.1]
  refine tab_congr fun t _ _ => ?_
  by_cases c : t = x
  ·subst c
   rw [if_pos rfl,if_pos (show t ∈ p ++ [t] by simp)]
   refine srt_ext fun y => ?_
   by_cases cp : t ∈ p
   ·simp [cp]
   ·simp [cp]
  ·rw [if_neg c]
   simp [c]
theorem sPreds6_ev {l : List S56} (hg : GW (nx l)) : Ev (fun k => spec_l6Preds.f k l) (tab (nx l).length (predL6 (nx l) (reach6 l))):=by
 have hhi:=hg.hi
 have hnl:=nx_len l
 unfold spec_l6Preds.f
 refine Ev.ite_pos (by omega) (Ev.bind (s6Reach_ev hg) ?_)
 have hri:=reach6_rise l
 have hme:=reach6_in l
 have hll:=reach6_le l
 have hfin : tab (nx l).length (predL6 (nx l) (reach6 l)) = tab (nx l).length (fun t => srt (nx l).length ((reach6 l).filter (fun k => decide (t ∈ rowG (nx l) k)))):=by
  refine tab_congr fun t _ _ => ?_
  exact (srt_rise (hri.filter _) (fun x hx => hme x (List.mem_filter.1 hx).1)).symm
 rw [hfin]
 generalize reach6 l = L at hll hri hme ⊢
 have main:=Ev.rangeI L (fun k (b : List (List Int)) j => spec_l6Preds.l0 k l L b j) (fun _ _ _ => tab (nx l).length (fun t => srt (nx l).length (L.filter (fun k => decide (t ∈ rowG (nx l) k))))) (fun b p => b = tab (nx l).length (fun t => srt (nx l).length (p.filter (fun k => decide (t ∈ rowG (nx l) k))))) (fun b hb => ?_) (fun b p x q e hb ih => ?_) (List.replicate l.length []) (by
  rw [← hnl,tab_rep]
  exact tab_congr fun t _ _ => by simp [srt_nil])
 ·exact main
 ·refine Ev.succ ?_
  simp only [spec_l6Preds.l0]
  exact Ev.ite_neg (by omega) (Ev.some hb)
 ·refine Ev.succ ?_
  simp only [spec_l6Preds.l0]
  have hl : p.length < L.length:=by rw [e];simp
  have hr : rd L (p.length : Int) = x:=by rw [e];exact rd_mid _ _ _
  have hx:=hme x (by rw [e];simp)
  have hm:=rowG_mem (g:=nx l) hx.1 hx.2
  refine Ev.ite_pos (by omega) (Ev.ite_pos (by omega) ?_)
  rw [hr]
  refine Ev.ite_pos hx.1 (Ev.ite_pos (by omega) ?_)
  rw [hb,nx_row l hx.1 (by omega)]
  refine sPred6Row_ev hg L x hx _ _ (rowG (nx l) x) (hg.row _ hm) (hg.inn _ hm) ?_
  rw [wrap_succ (by omega)]
  refine ih _ (tab_congr fun t _ _ => ?_)
  rw [List.filter_append]
  by_cases c : t ∈ rowG (nx l) x
  ·simp [c]
  ·simp [c]

/-- A way along a relation. -/
inductive Star (R : Int → Int → Prop) : Int → Int → Prop
 | refl (a : Int) : Star R a a
 | step {a b c : Int} : R a b → Star R b c → Star R a c
theorem Star.snoc {R : Int → Int → Prop} {a b c : Int} (h : Star R a b) (hr : R b c) : Star R a c:=by
 induction h with
 | refl a => exact .step hr (.refl _)
 | step h1 _ ih => exact .step h1 (ih hr)
/-- One edge that leaves out av. -/
def stepG (g : List (List Int)) (av : List Int) (y x : Int) : Prop:=x ∈ rowG g y ∧ x ∉ av
theorem passRow_tail (av : List Int) : ∀ q s : List Int,∃ t,passRow av s q = s ++ t
 | [],s => ⟨[],by simp [passRow]⟩
 | x :: q,s => by
  rw [passRow]
  by_cases h : x ∈ av ∨ x ∈ s
  ·rw [if_pos h];exact passRow_tail av q s
  ·rw [if_neg h]
   obtain ⟨t,ht⟩:=passRow_tail av q (s ++ [x])
   exact ⟨x :: t,by rw [ht];simp⟩
theorem passRow_mem (av : List Int) (y : Int) : ∀ q s : List Int,y ∈ passRow av s q ↔ y ∈ s ∨ (y ∈ q ∧ y ∉ av)
 | [],s => by simp [passRow]
 | x :: q,s => by
  rw [passRow,passRow_mem av y q]
  by_cases h : x ∈ av ∨ x ∈ s
  ·rw [if_pos h]
   constructor
   ·rintro (h1 | h1)
    ·exact .inl h1
    ·exact .inr ⟨by simp [h1.1],h1.2⟩
   ·rintro (h1 | ⟨h1,h2⟩)
    ·exact .inl h1
    ·rcases List.mem_cons.1 h1 with rfl | h1
     ·exact .inl (h.resolve_left h2)
     ·exact .inr ⟨h1,h2⟩
  ·rw [if_neg h]
   constructor
   ·rintro (h1 | h1)
    ·rcases List.mem_append.1 h1 with h1 | h1
     ·exact .inl h1
     ·rw [List.mem_singleton] at h1
      subst h1
      exact .inr ⟨by simp,fun e => h (.inl e)⟩
    ·exact .inr ⟨by simp [h1.1],h1.2⟩
   ·rintro (h1 | ⟨h1,h2⟩)
    ·exact .inl (by simp [h1])
    ·rcases List.mem_cons.1 h1 with rfl | h1
     ·exact .inl (by simp)
     ·exact .inr ⟨h1,h2⟩
theorem walkG_sup (g : List (List Int)) (av : List Int) : ∀ (f : Nat) (s : List Int) (i : Nat),∀ y ∈ s,y ∈ walkG g av f s i
 | 0,s,i,y,hy => hy
 | f + 1,s,i,y,hy => by
  rw [walkG]
  split
  ·exact walkG_sup g av f _ _ y ((passRow_mem av y _ s).2 (.inl hy))
  ·exact hy
theorem walkG_sound (g : List (List Int)) (av : List Int) (a : Int) : ∀ (f : Nat) (s : List Int) (i : Nat),(∀ y ∈ s,Star (stepG g av) a y) → ∀ y ∈ walkG g av f s i,Star (stepG g av) a y
 | 0,s,i,h,y,hy => h y hy
 | f + 1,s,i,h,y,hy => by
  rw [walkG] at hy
  split at hy
  ·rename_i hi
   refine walkG_sound g av a f _ _ (fun z hz => ?_) y hy
   rcases (passRow_mem av z _ s).1 hz with hz | hz
   ·exact h z hz
   ·exact (h _ (rd_mem hi)).snoc hz
  ·exact h y hy
theorem rd_app {s : List Int} (t : List Int) {j : Nat} (h : j < s.length) : rd (s ++ t) (j : Int) = rd s j:=by
 unfold rd
 rw [Int.toNat_natCast,List.getD_eq_getElem?_getD,List.getD_eq_getElem?_getD,List.getElem?_append_left h]
theorem rd_of_mem {s : List Int} {y : Int} (h : y ∈ s) : ∃ j : Nat,j < s.length ∧ rd s (j : Int) = y:=by
 obtain ⟨j,hj,rfl⟩:=List.mem_iff_getElem.1 h
 exact ⟨j,hj,by unfold rd;rw [Int.toNat_natCast,List.getD_eq_getElem?_getD,List.getElem?_eq_getElem hj];rfl⟩
theorem walkG_closed {g : List (List Int)} (hg : GW g) (av : List Int) : ∀ (f : Nat) (s : List Int) (i : Nat),OkS g.length s → i + f = g.length + 1 → (∀ j : Nat,j < i → j < s.length → ∀ x,stepG g av (rd s j) x → x ∈ s) →
 ∀ y ∈ walkG g av f s i,∀ x,stepG g av y x → x ∈ walkG g av f s i
 | 0,s,i,h,hi,hc,y,hy,x,hx => by
  have:=h.le
  rw [walkG] at hy ⊢
  obtain ⟨j,hj,rfl⟩:=rd_of_mem hy
  exact hc j (by omega) hj x hx
 | f + 1,s,i,h,hi,hc,y,hy,x,hx => by
  rw [walkG] at hy ⊢
  by_cases h1 : i < s.length
  ·rw [if_pos h1] at hy ⊢
   have hm:=h.2 _ (rd_mem h1)
   refine walkG_closed hg av f _ (i + 1) (passRow_ok av _ _ h (hg.inn _ (rowG_mem hm.1 hm.2))).1 (by omega) (fun j hj hj2 z hz => ?_) y hy x hx
   obtain ⟨t,ht⟩:=passRow_tail av (rowG g (rd s i)) s
   have hjs : j < s.length:=by omega
   rw [ht,rd_app t hjs] at hz
   by_cases h2 : j < i
   ·exact (passRow_mem av z _ s).2 (.inl (hc j h2 hjs z hz))
   ·have : j = i:=by omega
    subst this
    exact (passRow_mem av z _ s).2 (.inr hz)
  ·rw [if_neg h1] at hy ⊢
   obtain ⟨j,hj,rfl⟩:=rd_of_mem hy
   exact hc j (by omega) hj x hx
/-- What the walk from a comes to. -/
theorem walkG_iff {g : List (List Int)} (hg : GW g) (av : List Int) {a : Int} (h0 : 0 ≤ a) (h1 : a < g.length) (y : Int) : y ∈ walkG g av (g.length + 1) [a] 0 ↔ Star (stepG g av) a y:=by
 have hok : OkS g.length [a]:=⟨by simp,fun x hx => by rw [List.mem_singleton] at hx;omega⟩
 constructor
 ·refine walkG_sound g av a _ [a] 0 (fun z hz => ?_) y
  rw [List.mem_singleton] at hz
  subst hz
  exact .refl _
 ·intro h
  have main : ∀ b c,Star (stepG g av) b c → b ∈ walkG g av (g.length + 1) [a] 0 → c ∈ walkG g av (g.length + 1) [a] 0:=by
   intro b c h
   induction h with
   | refl b => exact fun h => h
   | step h1 _ ih => exact fun hb => ih (walkG_closed hg av _ [a] 0 hok (by omega) (fun j hj => by omega) _ hb _ h1)
  exact main a y h (walkG_sup g av _ [a] 0 a (by simp))

theorem srt_ext' (n : Nat) (s : List Int) : srt n s = srt n (srt n s):=by
 unfold srt
 refine List.filter_congr fun x hx => ?_
 rw [Bool.eq_iff_iff,decide_eq_true_iff,decide_eq_true_iff,List.mem_filter,decide_eq_true_iff]
 exact ⟨fun h => ⟨hx,h⟩,fun h => h.2⟩
theorem reach6_iff {l : List S56} (hg : GW (nx l)) (y : Int) : y ∈ reach6 l ↔ Star (stepG (nx l) []) 0 y:=by
 have hlo:=hg.lo
 unfold reach6
 rw [srt_mem,← walkG_iff hg [] (a:=0) (by omega) (by omega) y]
 refine ⟨fun h => h.2,fun h => ⟨(walkG_ok hg [] _ [0] 0 ⟨by simp,fun x hx => by rw [List.mem_singleton] at hx;omega⟩).2 y h,h⟩⟩
/-- Where block kk leads to. -/
def toJ (l : List S56) (kk : Int) : Int:=rd (rd_T56 l kk).f3 0
/-- Whether block kk takes in the one that it leads to. -/
def candJ (l : List S56) (kk : Int) : Bool:=decide ((rd_T56 l kk).f1 = 1 ∧ toJ l kk ≠ 0 ∧ toJ l kk ≠ kk ∧ (predL6 (nx l) (reach6 l) (toJ l kk)).length = 1 ∧ (rd_T56 l kk).f0.length + (rd_T56 l (toJ l kk)).f0.length ≤ 60)
def joinAt (l : List S56) (kk : Int) : List S56:=l.set kk.toNat ⟨(rd_T56 l kk).f0 ++ (rd_T56 l (toJ l kk)).f0,(rd_T56 l (toJ l kk)).f1,(rd_T56 l (toJ l kk)).f2,(rd_T56 l (toJ l kk)).f3⟩
def nextJ (l : List S56) : Option Int:=(reach6 l).find? (candJ l)
theorem okJ {l : List S56} (ok : okFlow l = true) {x : Int} (h0 : 0 ≤ x) (h1 : x < l.length) :
 (rd_T56 l x).f0.length ≤ 60 ∧ (∀ y ∈ (rd_T56 l x).f3,0 ≤ y ∧ y < l.length) ∧ ((rd_T56 l x).f1 = 1 → (rd_T56 l x).f3.length = 1) ∧ okB (l.length : Int) (rd_T56 l x) = true:=by
 unfold okFlow at ok
 rw [Bool.and_eq_true,decide_eq_true_iff,List.all_eq_true] at ok
 have hb:=ok.1 _ (rd6_mem h0 h1)
 have hb':=hb
 unfold okB okNx okGo at hb
 simp only [Bool.and_eq_true,decide_eq_true_iff,List.all_eq_true] at hb
 refine ⟨hb.2.2.2,fun y hy => hb.2.1 y hy,fun h => ?_,hb'⟩
 have:=hb.2.2.1
 rw [if_pos h] at this
 exact this.1
theorem joinAt_ok {l : List S56} (ok : okFlow l = true) {kk : Int} (h0 : 0 ≤ kk) (h1 : kk < l.length) (hc : candJ l kk = true) : okFlow (joinAt l kk) = true:=by
 have o:=okJ ok h0 h1
 unfold candJ at hc
 rw [decide_eq_true_iff] at hc
 have h3:=o.2.2.1 hc.1
 have hto : 0 ≤ toJ l kk ∧ toJ l kk < l.length:=o.2.1 _ (rd_mem (i:=0) (by omega))
 have o2:=okJ ok hto.1 hto.2
 have hlen : (joinAt l kk).length = l.length:=by unfold joinAt;simp
 have ok':=ok
 unfold okFlow at ok ⊢
 rw [hlen]
 rw [Bool.and_eq_true,List.all_eq_true] at ok ⊢
 refine ⟨fun b hb => ?_,ok.2⟩
 unfold joinAt at hb
 rcases List.mem_or_eq_of_mem_set hb with hb | rfl
 ·exact ok.1 b hb
 ·have a:=o.2.2.2
  have c:=o2.2.2.2
  unfold okB okGo at a c ⊢
  simp only [Bool.and_eq_true,decide_eq_true_iff,List.all_append] at a c ⊢
  refine ⟨⟨a.1,c.1⟩,c.2.1,c.2.2.1,?_⟩
  rw [List.length_append]
  exact hc.2.2.2.2
theorem joinAt_hx {l : List S56} (ok : okFlow l = true) (hx : ∀ x ∈ l,x.f0.length ≤ 1048576 ∧ x.f3.length ≤ 1048576) {kk : Int} (h0 : 0 ≤ kk) (h1 : kk < l.length) (hc : candJ l kk = true) : ∀ x ∈ joinAt l kk,x.f0.length ≤ 1048576 ∧ x.f3.length ≤ 1048576:=by
 have o:=okJ ok h0 h1
 unfold candJ at hc
 rw [decide_eq_true_iff] at hc
 have h3:=o.2.2.1 hc.1
 have hto : 0 ≤ toJ l kk ∧ toJ l kk < l.length:=o.2.1 _ (rd_mem (i:=0) (by omega))
 intro b hb
 unfold joinAt at hb
 rcases List.mem_or_eq_of_mem_set hb with hb | rfl
 ·exact hx b hb
 ·have:=hx _ (rd6_mem hto.1 hto.2)
  refine ⟨?_,this.2⟩
  rw [List.length_append]
  have:=hc.2.2.2.2
  omega
theorem row_set (g : List (List Int)) (r : List Int) {kk u : Int} (h0 : 0 ≤ kk) (h1 : kk < g.length) (h2 : 0 ≤ u) : rowG (g.set kk.toNat r) u = if u = kk then r else rowG g u:=by
 unfold rowG
 rw [List.getD_eq_getElem?_getD,List.getD_eq_getElem?_getD,List.getElem?_set]
 by_cases c : u = kk
 ·subst c
  rw [if_pos rfl,if_pos rfl,if_pos (by omega)]
  rfl
 ·rw [if_neg c,if_neg (by omega)]
theorem join_lt {l : List S56} (ok : okFlow l = true) (hx : ∀ x ∈ l,x.f0.length ≤ 1048576 ∧ x.f3.length ≤ 1048576) {kk : Int} (hkk : kk ∈ reach6 l) (hc : candJ l kk = true) : (reach6 (joinAt l kk)).length < (reach6 l).length:=by
 have hg:=okFlow_GW ok hx
 have hnl:=nx_len l
 have hk:=r6_in l kk hkk
 have o:=okJ ok hk.1 (by omega)
 have hg':=okFlow_GW (joinAt_ok ok hk.1 (by omega) hc) (joinAt_hx ok hx hk.1 (by omega) hc)
 unfold candJ at hc
 rw [decide_eq_true_iff] at hc
 obtain ⟨c1,c2,c3,c4,c5⟩:=hc
 have h3:=o.2.2.1 c1
 have hm : toJ l kk ∈ (rd_T56 l kk).f3:=rd_mem (i:=0) (by omega)
 have hto:=o.2.1 _ hm
 have hrow : toJ l kk ∈ rowG (nx l) kk:=by rw [← nx_row l hk.1 (by omega)];exact hm
 have htr : toJ l kk ∈ reach6 l:=(reach6_iff hg _).2 (((reach6_iff hg kk).1 hkk).snoc ⟨hrow,by simp⟩)
 have hone : ∀ u ∈ reach6 l,toJ l kk ∈ rowG (nx l) u → u = kk:=by
  intro u hu hru
  obtain ⟨a,ha⟩:=List.length_eq_one_iff.1 c4
  have m1 : u ∈ predL6 (nx l) (reach6 l) (toJ l kk):=List.mem_filter.2 ⟨hu,by simpa using hru⟩
  have m2 : kk ∈ predL6 (nx l) (reach6 l) (toJ l kk):=List.mem_filter.2 ⟨hkk,by simpa using hrow⟩
  rw [ha,List.mem_singleton] at m1 m2
  rw [m1,m2]
 have hnx : nx (joinAt l kk) = (nx l).set kk.toNat (rowG (nx l) (toJ l kk)):=by
  unfold joinAt
  rw [← nx_row l hto.1 hto.2]
  unfold nx
  rw [List.map_set]
 have hsub : ∀ y,Star (stepG (nx (joinAt l kk)) []) 0 y → y ∈ reach6 l ∧ y ≠ toJ l kk:=by
  have main : ∀ a y,Star (stepG (nx (joinAt l kk)) []) a y → (a ∈ reach6 l ∧ a ≠ toJ l kk) → (y ∈ reach6 l ∧ y ≠ toJ l kk):=by
   intro a y h
   induction h with
   | refl a => exact fun h => h
   | step h1 _ ih =>
    rename_i a b c hs
    refine fun ha => ih ?_
    have hb:=h1.1
    have ha0:=r6_in l a ha.1
    rw [hnx,row_set _ _ hk.1 hk.2 ha0.1] at hb
    by_cases e : a = kk
    ·rw [if_pos e] at hb
     refine ⟨(reach6_iff hg _).2 (((reach6_iff hg _).1 htr).snoc ⟨hb,by simp⟩),fun e2 => ?_⟩
     rw [e2] at hb
     exact c3 (hone _ htr hb)
    ·rw [if_neg e] at hb
     refine ⟨(reach6_iff hg _).2 (((reach6_iff hg _).1 ha.1).snoc ⟨hb,by simp⟩),fun e2 => ?_⟩
     rw [e2] at hb
     exact e (hone _ ha.1 hb)
  exact fun y h => main 0 y h ⟨(reach6_iff hg 0).2 (.refl 0),fun e => c2 e.symm⟩
 have hlen : (nx (joinAt l kk)).length = (nx l).length:=by rw [hnx];simp
 have hout : toJ l kk ∉ walkG (nx (joinAt l kk)) [] ((nx (joinAt l kk)).length + 1) [0] 0:=by
  intro h
  have:=hg'.lo
  exact (hsub _ ((walkG_iff hg' [] (a:=0) (by omega) (by omega) _).1 h)).2 rfl
 have hadd:=srt_add (nx (joinAt l kk)).length _ _ hto.1 (by rw [hlen,hnl];exact hto.2) hout
 have hle : (srt (nx (joinAt l kk)).length (walkG (nx (joinAt l kk)) [] ((nx (joinAt l kk)).length + 1) [0] 0 ++ [toJ l kk])).length ≤ (reach6 l).length:=by
  have he : reach6 l = (upto (nx l).length).filter (fun y => decide (y ∈ reach6 l)):=by
   have : reach6 l = srt (nx l).length (reach6 l):=by
    unfold reach6
    exact srt_ext' _ _
   exact this
  rw [he]
  unfold srt
  rw [hlen,← List.countP_eq_length_filter,← List.countP_eq_length_filter]
  refine List.countP_mono_left fun y _ hy => ?_
  rw [decide_eq_true_iff] at hy ⊢
  rcases List.mem_append.1 hy with hy | hy
  ·have:=hg'.lo
   rw [← hlen] at hy
   exact (hsub y ((walkG_iff hg' [] (a:=0) (by omega) (by omega) _).1 hy)).1
  ·rw [List.mem_singleton] at hy
   rw [hy];exact htr
 unfold reach6 at hle ⊢
 omega

theorem sum60 {a b : Nat} (h : a + b ≤ 60) : ¬ (60 < (a : Int) + (b : Int)):=by omega
theorem sum61 {a b : Nat} (h : ¬ a + b ≤ 60) : 60 < (a : Int) + (b : Int):=by omega
theorem sumW {a b : Nat} (ha : a ≤ 60) (hb : b ≤ 60) : wrap64 ((a : Int) + (b : Int)) = (a : Int) + (b : Int):=wrap64_id (by omega) (by omega)
theorem sumM {a b : Nat} (h : a + b ≤ 60) : a + b < 1000:=by omega
theorem cat2 {a b : List S79} (ha : a.length ≤ 60) (hb : b.length ≤ 60) : slices_Concat_impl_Flat.f [a,b] = some (a ++ b):=by
 unfold slices_Concat_impl_Flat.f
 have h : ∀ x ∈ [a,b],x.length ≤ 1000:=by
  intro x hx
  rcases List.mem_cons.1 hx with rfl | hx
  ·omega
  ·rw [List.mem_singleton] at hx;subst hx;omega
 rw [if_pos ⟨by simp,h⟩]
 simp
theorem own6 {a : List S79} {g t : Int} {n : List Int} (ha : a.length ≤ 1048576) (hn : n.length ≤ 1048576) : spec_l6Own.f a g t n = some (a,g,t,n):=by
 unfold spec_l6Own.f
 simp only [Option.bind_some,List.nil_append,List.length_nil,Nat.zero_add]
 rw [if_pos (by omega),if_pos (by omega)]
theorem cln6 {n : List Int} (hn : n.length ≤ 1048576) : slices_Clone_int_int.f n = some n:=by unfold slices_Clone_int_int.f;rw [if_pos (by omega)]
theorem sJoin_l2 {l : List S56} (ok : okFlow l = true) (hx : ∀ x ∈ l,x.f0.length ≤ 1048576 ∧ x.f3.length ≤ 1048576) {r : List S56}
 (hno : nextJ l = none → Ev (fun k => spec_l6Join.l1 k l false) r) (hyes : ∀ kk,nextJ l = some kk → Ev (fun k => spec_l6Join.l1 k (joinAt l kk) true) r) :
 Ev (fun k => spec_l6Join.l2 k l (tab (nx l).length (predL6 (nx l) (reach6 l))) (reach6 l) 0) r:=by
 have hg:=okFlow_GW ok hx
 have hnl:=nx_len l
 have hhi:=hg.hi
 have hme:=r6_in l
 have hll:=r6_le l
 refine Ev.rangeI (reach6 l) (fun k (_ : Unit) j => spec_l6Join.l2 k l (tab (nx l).length (predL6 (nx l) (reach6 l))) (reach6 l) j) (fun _ _ _ => r) (fun _ p => ∀ y ∈ p,candJ l y = false) (fun b hb => ?_) (fun b p x q e hb ih => ?_) () (by simp)
 ·refine Ev.succ ?_
  simp only [spec_l6Join.l2]
  refine Ev.ite_neg (by omega) (hno ?_)
  unfold nextJ
  rw [List.find?_eq_none]
  intro y hy
  simp [hb y hy]
 ·refine Ev.succ ?_
  simp only [spec_l6Join.l2]
  have hl : p.length < (reach6 l).length:=by rw [e];simp
  have hr : rd (reach6 l) (p.length : Int) = x:=by rw [e];exact rd_mid _ _ _
  have hxx:=hme x (by rw [e];simp)
  have o:=okJ ok hxx.1 (by omega)
  have next : candJ l x = false → Ev (fun k => spec_l6Join.l2 k l (tab (nx l).length (predL6 (nx l) (reach6 l))) (reach6 l) ((p.length : Int) + 1)) r:=by
   intro h
   refine ih () (fun y hy => ?_)
   rcases List.mem_append.1 hy with h2 | h2
   ·exact hb y h2
   ·rw [List.mem_singleton] at h2;rw [h2];exact h
  refine Ev.ite_pos (by omega) (Ev.ite_pos (by omega) ?_)
  rw [hr,wrap_succ (by omega)]
  refine Ev.ite_pos hxx.1 (Ev.ite_pos (by omega) ?_)
  by_cases c1 : (rd_T56 l x).f1 = 1
  rotate_left
  ·exact Ev.ite_neg c1 (next (by simp [candJ,c1]))
  have h3:=o.2.2.1 c1
  have hto : 0 ≤ toJ l x ∧ toJ l x < l.length:=o.2.1 _ (rd_mem (i:=0) (by omega))
  have o2:=okJ ok hto.1 hto.2
  have e4 : (tab (nx l).length (predL6 (nx l) (reach6 l))).getD (toJ l x).toNat [] = predL6 (nx l) (reach6 l) (toJ l x):=tab_getD _ hto.1 (by omega) _
  refine Ev.ite_pos c1 (Ev.ite_pos (by omega) ?_)
  rw [show rd (rd_T56 l x).f3 0 = toJ l x from rfl]
  by_cases c2 : toJ l x = 0
  ·exact Ev.ite_pos c2 (next (by simp [candJ,c2]))
  refine Ev.ite_neg c2 ?_
  by_cases c3 : toJ l x = x
  ·exact Ev.ite_pos c3 (next (by simp [candJ,c3]))
  refine Ev.ite_neg c3 (Ev.ite_pos hto.1 (Ev.ite_pos (by rw [tab_length];omega) ?_))
  rw [e4]
  by_cases c4 : (predL6 (nx l) (reach6 l) (toJ l x)).length = 1
  rotate_left
  ·exact Ev.ite_neg (by omega) (next (by simp [candJ,c4]))
  refine Ev.ite_pos (by omega) (Ev.ite_pos hto.2 ?_)
  rw [sumW o.1 o2.1]
  by_cases c5 : (rd_T56 l x).f0.length + (rd_T56 l (toJ l x)).f0.length ≤ 60
  rotate_left
  ·exact Ev.ite_pos (sum61 c5) (next (by simp [candJ,c5]))
  have hf3:=(hx _ (rd6_mem hto.1 hto.2)).2
  refine Ev.ite_neg (sum60 c5) (Ev.bind (Ev.const (own6 (hx _ (rd6_mem hto.1 hto.2)).1 hf3)) (Ev.ite_pos (sumM c5) ?_))
  refine hyes x ?_
  unfold nextJ
  rw [e,List.find?_append,List.find?_eq_none.2 (fun y hy => by simp [hb y hy])]
  simp [candJ,c1,c2,c3,c4,c5]
theorem once_ev {l : List S56} (hl : l.length ≤ 1048576) (ok : okFlow l = true) (hx : ∀ x ∈ l,x.f0.length ≤ 1048576 ∧ x.f3.length ≤ 1048576) :
 Ev (fun k => impl_joinOnce.f k l) (match nextJ l with | none => (false,l) | some kk => (true,joinAt l kk)):=by
 have hg:=okFlow_GW ok hx
 have hnl:=nx_len l
 have hlo:=hg.lo
 have hhi:=hg.hi
 have hme:=r6_in l
 have hll:=r6_le l
 unfold impl_joinOnce.f
 refine Ev.bind (nexts_ev l hl) (Ev.bind (preds6_ev hg) (Ev.bind (iReach1_ev hg 0 (by omega) (by omega)) ?_))
 have hlo2 : Ev (fun k => impl_listOf.f k (boolsG (nx l).length (walkG (nx l) [] ((nx l).length + 1) [0] 0))) (reach6 l):=listOf_ev (nx l).length (by omega) (fun x => decide (x ∈ walkG (nx l) [] ((nx l).length + 1) [0] 0))
 refine Ev.bind hlo2 ?_
 refine Ev.rangeI (reach6 l) (fun k (_ : Unit) j => impl_joinOnce.l0 k l (tab (nx l).length (predL6 (nx l) (reach6 l))) (reach6 l) j) (fun _ _ _ => (match nextJ l with | none => (false,l) | some kk => (true,joinAt l kk))) (fun _ p => ∀ y ∈ p,candJ l y = false) (fun b hb => ?_) (fun b p x q e hb ih => ?_) () (by simp)
 ·refine Ev.succ ?_
  simp only [impl_joinOnce.l0]
  have : nextJ l = none:=by
   unfold nextJ
   rw [List.find?_eq_none]
   intro y hy
   simp [hb y hy]
  rw [this]
  exact Ev.ite_neg (by omega) (Ev.some rfl)
 ·refine Ev.succ ?_
  simp only [impl_joinOnce.l0]
  have hl : p.length < (reach6 l).length:=by rw [e];simp
  have hr : rd (reach6 l) (p.length : Int) = x:=by rw [e];exact rd_mid _ _ _
  have hxm : x ∈ reach6 l:=by rw [e];simp
  have hxx:=hme x hxm
  have o:=okJ ok hxx.1 (by omega)
  have next : candJ l x = false → Ev (fun k => impl_joinOnce.l0 k l (tab (nx l).length (predL6 (nx l) (reach6 l))) (reach6 l) ((p.length : Int) + 1)) (match nextJ l with | none => (false,l) | some kk => (true,joinAt l kk)):=by
   intro h
   refine ih () (fun y hy => ?_)
   rcases List.mem_append.1 hy with h2 | h2
   ·exact hb y h2
   ·rw [List.mem_singleton] at h2;rw [h2];exact h
  refine Ev.ite_pos (by omega) (Ev.ite_pos (by omega) ?_)
  rw [hr,wrap_succ (by omega)]
  refine Ev.ite_pos hxx.1 (Ev.ite_pos (by omega) ?_)
  by_cases c1 : (rd_T56 l x).f1 = 1
  rotate_left
  ·exact Ev.ite_neg c1 (next (by simp [candJ,c1]))
  have h3:=o.2.2.1 c1
  have hmem : toJ l x ∈ (rd_T56 l x).f3:=rd_mem (i:=0) (by omega)
  have hto : 0 ≤ toJ l x ∧ toJ l x < l.length:=o.2.1 _ hmem
  have o2:=okJ ok hto.1 hto.2
  have e4 : (tab (nx l).length (predL6 (nx l) (reach6 l))).getD (toJ l x).toNat [] = predL6 (nx l) (reach6 l) (toJ l x):=tab_getD _ hto.1 (by omega) _
  refine Ev.ite_pos c1 (Ev.ite_pos (by omega) ?_)
  rw [show rd (rd_T56 l x).f3 0 = toJ l x from rfl]
  by_cases c3 : toJ l x = x
  ·exact Ev.ite_pos c3 (next (by simp [candJ,c3]))
  refine Ev.ite_neg c3 ?_
  by_cases c2 : toJ l x = 0
  ·exact Ev.ite_pos c2 (next (by simp [candJ,c2]))
  refine Ev.ite_neg c2 (Ev.ite_pos hto.1 (Ev.ite_pos (by rw [tab_length];omega) ?_))
  rw [e4]
  have hp1 : 0 < (predL6 (nx l) (reach6 l) (toJ l x)).length:=List.length_pos_of_mem (a:=x) (List.mem_filter.2 ⟨hxm,by rw [← nx_row l hxx.1 (by omega)];simpa using hmem⟩)
  by_cases c4 : (predL6 (nx l) (reach6 l) (toJ l x)).length = 1
  rotate_left
  ·exact Ev.ite_pos (by omega) (next (by simp [candJ,c4]))
  refine Ev.ite_neg (by omega) (Ev.ite_pos hto.2 ?_)
  rw [sumW o.1 o2.1]
  by_cases c5 : (rd_T56 l x).f0.length + (rd_T56 l (toJ l x)).f0.length ≤ 60
  rotate_left
  ·exact Ev.ite_pos (sum61 c5) (next (by simp [candJ,c5]))
  have hf3:=(hx _ (rd6_mem hto.1 hto.2)).2
  have hn : nextJ l = some x:=by
   unfold nextJ
   rw [e,List.find?_append,List.find?_eq_none.2 (fun y hy => by simp [hb y hy])]
   simp [candJ,c1,c2,c3,c4,c5]
  rw [hn]
  exact Ev.ite_neg (sum60 c5) (Ev.bind (Ev.const (cat2 o.1 o2.1)) (Ev.bind (Ev.const (cln6 hf3)) (Ev.some rfl)))
/-- Both sides join alike until nothing is left to join. -/
theorem join_ev : ∀ (m : Nat) (l : List S56),l.length ≤ 1048576 → okFlow l = true → (∀ x ∈ l,x.f0.length ≤ 1048576 ∧ x.f3.length ≤ 1048576) → (reach6 l).length ≤ m →
 ∃ r,Ev (fun k => spec_l6Join.l1 k l true) r ∧ Ev (fun k => impl_JoinFlow.l0 k l) (r,true) ∧ r.length ≤ 1048576 ∧ ∀ x ∈ r,x.f0.length ≤ 1048576 ∧ x.f3.length ≤ 1048576
 | m,l,hl,ok,hx,hm => by
  have hg:=okFlow_GW ok hx
  have ho:=once_ev hl ok hx
  cases hn : nextJ l with
  | none =>
   rw [hn] at ho
   have ht:=trimInF_ok l hl hx
   unfold trimInF at ht
   rw [if_pos ok] at ht
   refine ⟨(trimF l).1,?_,?_,ht.1,ht.2.2⟩
   ·refine Ev.succ ?_
    simp only [spec_l6Join.l1]
    refine Ev.ite_pos trivial (Ev.bind (sPreds6_ev hg) (Ev.bind (s6Reach_ev hg) (sJoin_l2 ok hx (fun _ => ?_) (fun kk h => by rw [hn] at h;cases h))))
    refine Ev.succ ?_
    simp only [spec_l6Join.l1]
    exact Ev.ite_neg (by decide) (Ev.bind (sTrim6_ev hg hx) (Ev.some rfl))
   ·refine Ev.succ ?_
    simp only [impl_JoinFlow.l0]
    exact Ev.bind ho (Ev.ite_neg (by simp) (Ev.bind (iTrim6_ev hl hg hx) (Ev.some rfl)))
  | some kk =>
   rw [hn] at ho
   have hk:=List.mem_of_find?_eq_some hn
   have hc : candJ l kk = true:=List.find?_some hn
   have hr:=r6_in l kk hk
   have hnl:=nx_len l
   have hlt:=join_lt ok hx hk hc
   match m,hm with
   | 0,hm => omega
   | m + 1,hm =>
    obtain ⟨r,h1,h2,h3,h4⟩:=join_ev m (joinAt l kk) (by unfold joinAt;simpa using hl) (joinAt_ok ok hr.1 (by omega) hc) (joinAt_hx ok hx hr.1 (by omega) hc) (by omega)
    refine ⟨r,?_,?_,h3,h4⟩
    ·refine Ev.succ ?_
     simp only [spec_l6Join.l1]
     exact Ev.ite_pos trivial (Ev.bind (sPreds6_ev hg) (Ev.bind (s6Reach_ev hg) (sJoin_l2 ok hx (fun h => by rw [hn] at h;cases h) (fun kk' h => by rw [hn] at h;injection h with h;subst h;exact h1))))
    ·refine Ev.succ ?_
     simp only [impl_JoinFlow.l0]
     exact Ev.bind ho (Ev.ite_pos rfl h2)
theorem cloneFlow_ev (l : List S56) (hl : l.length ≤ 1048576) (hx : ∀ x ∈ l,x.f0.length ≤ 1048576 ∧ x.f3.length ≤ 1048576) : Ev (fun k => impl_cloneFlow.f k l) l:=by
 unfold impl_cloneFlow.f
 refine Ev.ite_pos (by omega) (Ev.ite_pos (by omega) ?_)
 rw [Int.toNat_natCast]
 refine Ev.rangeI (ρ:=List S56) l (fun k b i => impl_cloneFlow.l0 k b l (l.length : Int) i) (fun _ _ _ => l) (fun b p => b = p ++ List.replicate (l.length - p.length) z56) (fun b hb => ?_) (fun b p x q e hb ih => ?_) (List.replicate l.length z56) (by simp)
 ·refine Ev.succ ?_
  simp only [impl_cloneFlow.l0]
  refine Ev.ite_neg (by omega) (Ev.some ?_)
  rw [hb];simp
 ·refine Ev.succ ?_
  simp only [impl_cloneFlow.l0]
  have hlen : p.length < l.length:=by rw [e];simp
  have hbl : b.length = l.length:=by rw [hb];simp;omega
  have hrd : rd_T56 l (p.length : Int) = x:=by unfold rd_T56;rw [e];exact getD_mid _ _ _ _
  have hxx:=hx x (by rw [e];simp)
  have h0 : slices_Clone_impl_Flat.f x.f0 = some x.f0:=by unfold slices_Clone_impl_Flat.f;rw [if_pos (by omega)]
  have h3 : slices_Clone_int_int.f x.f3 = some x.f3:=by unfold slices_Clone_int_int.f;rw [if_pos (by omega)]
  refine Ev.ite_pos (by omega) (Ev.ite_pos (by omega) (Ev.ite_pos (by omega) ?_))
  rw [hrd,Int.toNat_natCast,wrap_succ (by omega)]
  refine Ev.bind (Ev.const h0) (Ev.bind (Ev.const h3) (Ev.ite_pos (by omega) (ih _ ?_)))
  rw [hb,show l.length - p.length = (l.length - (p ++ [x]).length) + 1 from by simp;omega,List.replicate_succ,set_mid]
  simp
theorem sOwn_ev {l : List S56} (hl : l.length ≤ 1048576) (hx : ∀ x ∈ l,x.f0.length ≤ 1048576 ∧ x.f3.length ≤ 1048576) {r : List S56} (h : Ev (fun k => spec_l6Join.l1 k l true) r) : Ev (fun k => spec_l6Join.f k l) r:=by
 unfold spec_l6Join.f
 refine Ev.rangeI (ρ:=List S56) l (fun k b i => spec_l6Join.l0 k l b i) (fun _ _ _ => r) (fun b p => b = p) (fun b hb => ?_) (fun b p x q e hb ih => ?_) [] rfl
 ·refine Ev.succ ?_
  simp only [spec_l6Join.l0]
  subst hb
  exact Ev.ite_neg (by omega) h
 ·refine Ev.succ ?_
  simp only [spec_l6Join.l0]
  subst hb
  have hlen : b.length < l.length:=by rw [e];simp
  have hrd : rd_T56 l (b.length : Int) = x:=by unfold rd_T56;rw [e];exact getD_mid _ _ _ _
  have hxx:=hx x (by rw [e];simp)
  have hown : spec_l6Own.f x.f0 x.f1 x.f2 x.f3 = some (x.f0,x.f1,x.f2,x.f3):=by
   unfold spec_l6Own.f
   simp only [Option.bind_some,List.nil_append,List.length_nil,Nat.zero_add]
   rw [if_pos (by omega),if_pos (by omega)]
  refine Ev.ite_pos (by omega) (Ev.ite_pos (by omega) ?_)
  rw [hrd,wrap_succ (by omega)]
  exact Ev.bind (Ev.const hown) (Ev.ite_pos (by omega) (ih _ rfl))
theorem joinIn_ev (l : List S56) (hl : l.length ≤ 1048576) (hx : ∀ x ∈ l,x.f0.length ≤ 1048576 ∧ x.f3.length ≤ 1048576) :
 ∃ r b,Ev (fun k => spec_JoinFlow.f k l) (r,b) ∧ Ev (fun k => impl_JoinFlow.f k l) (r,b) ∧ r.length ≤ 1048576 ∧ ∀ x ∈ r,x.f0.length ≤ 1048576 ∧ x.f3.length ≤ 1048576:=by
 unfold spec_JoinFlow.f impl_JoinFlow.f
 by_cases c : okFlow l = true
 ·obtain ⟨r,h1,h2,h3,h4⟩:=join_ev (reach6 l).length l hl c hx (Nat.le_refl _)
  refine ⟨r,true,Ev.bind (specFlow_ev l hl hx) (Ev.ite_pos c (Ev.bind (sOwn_ev hl hx h1) (Ev.some rfl))),Ev.bind (implFlow_ev l hl hx) (Ev.ite_pos c (Ev.bind (cloneFlow_ev l hl hx) h2)),h3,h4⟩
 ·exact ⟨[],false,Ev.bind (specFlow_ev l hl hx) (Ev.ite_neg c (Ev.some rfl)),Ev.bind (implFlow_ev l hl hx) (Ev.ite_neg c (Ev.some rfl)),by simp,by simp⟩

theorem FnExactJoinFlow : laws_FnExactJoinFlow.Pure:=by
 intro a ha hx
 refine Ev.rounds (g:=fun k => laws_FnExactJoinFlow.f k a) ?_
 unfold laws_FnExactJoinFlow.f
 obtain ⟨r,hr,_,h⟩:=szBlockS_ev a ha (fun x hxm => ⟨(hx x hxm).1.1,(hx x hxm).2.2.2.1⟩)
 refine Ev.bind hr ?_
 by_cases hn : r < 0
 ·exact Ev.ite_pos hn (Ev.now _)
 ·obtain ⟨h1,h2⟩:=h.resolve_left hn
  have tg:=toBlockS_ev a h1 h2
  have g1 : (a.map cvB).length ≤ 1048576:=by simpa using h1
  have g2 : ∀ x ∈ a.map cvB,x.f0.length ≤ 1048576 ∧ x.f3.length ≤ 1048576:=fun x hxm => by
   obtain ⟨y,hy,rfl⟩:=List.mem_map.1 hxm;have:=h2 y hy;simpa [cvB] using this
  obtain ⟨t1,t2,sp,im,hs1,hs3⟩:=joinIn_ev (a.map cvB) g1 g2
  have eg:=eqBlockS_ev (a.map cvB) (by omega) (fun x hxm => by have:=g2 x hxm;omega)
  have mg:=markBlockS_ev _ g1 g2
  have hge0:=mkBN_ge (a.map cvB) 1
  have e1:=eqBlockS_ev t1 (by omega) (fun x hxm => by have:=hs3 x hxm;omega)
  have hge:=mkBN_ge t1 1
  have hle:=mkBN_le t1 1 hs3
  have mb:=markBlockS_ev t1 hs1 hs3
  have hb:=heldBlockS_ev t1 hs1 hs3
  refine Ev.ite_neg hn (Ev.bind tg (Ev.bind sp (Ev.bind tg (Ev.bind im ?_))))
  refine Ev.bind e1 (Ev.ite_pos rfl (Ev.ite_pos rfl ?_))
  refine Ev.bind tg (Ev.bind eg (Ev.ite_pos rfl (Ev.bind mg (Ev.ite_neg (by dsimp only;omega) ?_))))
  refine Ev.bind e1 (Ev.ite_pos rfl (Ev.ite_pos rfl ?_))
  refine Ev.bind mb (Ev.bind hb (Ev.ite_neg (by omega) (Ev.ite_pos rfl ?_)))
  refine Ev.bind tg (Ev.bind im (Ev.bind e1 (Ev.ite_pos rfl (Ev.ite_pos rfl ?_))))
  exact Ev.bind hb (Ev.ite_neg (by omega) (Ev.ite_pos rfl (Ev.now _)))

end Go.Proofs.Ythgkhfhfahifmaa.Pure
