/- Of all steps the law of cutdead tells true. No condition beyond the row's own. -/
import Derived.Test.YtmljikgegclolaaQ0
import Derived.Test.YtmljikgegclolaaQ1
import Derived.Test.YtmljikgegclolaaQ10
import Derived.Test.YtmljikgegclolaaQ11
import Derived.Test.YtmljikgegclolaaQ12
import Derived.Test.YtmljikgegclolaaQ13
import Derived.Test.YtmljikgegclolaaQ14
import Derived.Test.YtmljikgegclolaaQ15
import Derived.Test.YtmljikgegclolaaQ16
import Derived.Test.YtmljikgegclolaaQ2
import Derived.Test.YtmljikgegclolaaQ3
import Derived.Test.YtmljikgegclolaaQ4
import Derived.Test.YtmljikgegclolaaQ5
import Derived.Test.YtmljikgegclolaaQ6
import Derived.Test.YtmljikgegclolaaQ7
import Derived.Test.YtmljikgegclolaaQ8
import Derived.Test.YtmljikgegclolaaQ9
import Derived.Test.YtmljikgegclolaaLib1
import Derived.Test.YtmljikgegclolaaLib2
namespace Go.Proofs.Ytmljikgegclolaa.Pure
open Go.RowKit Go.Proofs.Ytmljikgegclolaa.Lib Go.Proofs.Ytmljikgegclolaa.Q Go.Proofs.YtmljikgegclolaaW.PrintWords Go.Proofs.YtmljikgegclolaaW.PrintLast Go.Proofs.YtmljikgegclolaaW.PrintMore
set_option linter.unusedVariables false
set_option linter.unusedSimpArgs false

theorem toIntS_l0 (q : List Int) : ∀ (p : List Int),p.length + q.length ≤ 1000000000000000 → Ev (fun k => laws_toIntS.l0 k (p ++ q) (p ++ List.replicate q.length 0) (p.length : Int)) (p ++ q):=by
 induction q with
 | nil =>
  intro p h0
  refine ⟨1,fun k hk => ?_⟩
  (try dsimp only)
  obtain ⟨k,rfl⟩ : ∃ m,k = m + 1:=⟨k - 1,by omega⟩
  simp only [laws_toIntS.l0]
  rw [if_neg (by simp)];simp
 | cons x q ih =>
  intro p h0
  simp only [List.length_cons] at h0
  obtain ⟨K,hK⟩:=ih (p ++ [x]) (by simp;omega)
  (try dsimp only at hK)
  refine ⟨K + 1,fun k hk => ?_⟩
  (try dsimp only)
  obtain ⟨k,rfl,hk'⟩:=within_lo hk
  simp only [laws_toIntS.l0]
  have hK':=hK k hk'
  simp only [List.append_assoc,List.cons_append,List.nil_append] at hK'
  have e1 : wrap64 ((p.length : Int) + 1) = ((p ++ [x]).length : Int):=by
   rw [wrap64_id (by omega) (by omega)];simp
  rw [if_pos (by simp;omega),if_pos (by omega),if_pos (by simp;omega),Int.toNat_natCast,rd_mid,List.length_cons,List.replicate_succ,set_mid,e1,hK']
theorem toIntS_ev (l : List Int) (h : l.length ≤ 1048576) : Ev (fun k => laws_toIntS.f k l) l:=by
 obtain ⟨K,hK⟩:=toIntS_l0 l [] (by simp;omega)
 (try dsimp only at hK)
 refine ⟨K,fun k hk => ?_⟩
 (try dsimp only)
 unfold laws_toIntS.f
 rw [if_pos (by omega),if_pos (by omega),Int.toNat_natCast]
 exact hK k hk

theorem eqIntS_l0 (d : Nat) : ∀ (p p' q q' : List Int),p.length = p'.length → q.length = d → q'.length = d → p.length + d ≤ 1000000000000000 → Ev (fun k => laws_eqIntS.l0 k (p ++ q) (p' ++ q') (p.length : Int)) (decide (q = q')):=by
 induction d with
 | zero =>
  intro p p' q q' hp hq hq' hb
  obtain rfl : q = []:=by simpa using hq
  obtain rfl : q' = []:=by simpa using hq'
  refine ⟨1,fun k hk => ?_⟩
  (try dsimp only)
  obtain ⟨k,rfl⟩ : ∃ m,k = m + 1:=⟨k - 1,by omega⟩
  simp only [laws_eqIntS.l0]
  rw [if_neg (by simp)];rfl
 | succ d ih =>
  intro p p' q q' hp hq hq' hb
  match q,q',hq,hq' with
  | x :: q,y :: q',hq,hq' =>
   simp only [List.length_cons] at hq hq'
   have r1:=rd_mid p q x
   have r2:=rd_mid p' q' y
   rw [← hp] at r2
   have e1 : wrap64 ((p.length : Int) + 1) = ((p ++ [x]).length : Int):=by
    rw [wrap64_id (by omega) (by omega)];simp
   by_cases hxy : x = y
   ·subst hxy
    obtain ⟨K,hK⟩:=ih (p ++ [x]) (p' ++ [x]) q q' (by simp [hp]) (by omega) (by omega) (by simp;omega)
    (try dsimp only at hK)
    refine ⟨K + 1,fun k hk => ?_⟩
    (try dsimp only)
    obtain ⟨k,rfl,hk'⟩:=within_lo hk
    simp only [laws_eqIntS.l0]
    have hK':=hK k hk'
    simp only [List.append_assoc,List.cons_append,List.nil_append] at hK'
    rw [if_pos (by simp;omega),if_pos (by omega),if_pos (by simp;omega),r1,r2,if_pos rfl,e1,hK']
    simp
   ·refine ⟨1,fun k hk => ?_⟩
    (try dsimp only)
    obtain ⟨k,rfl⟩ : ∃ m,k = m + 1:=⟨k - 1,by omega⟩
    simp only [laws_eqIntS.l0]
    rw [if_pos (by simp;omega),if_pos (by omega),if_pos (by simp;omega),r1,r2,if_neg hxy]
    simp [hxy]
theorem eqIntS_ev (a b : List Int) (h : a.length ≤ 1000000000000000) : Ev (fun k => laws_eqIntS.f k a b) (decide (a = b)):=by
 by_cases hl : a.length = b.length
 ·obtain ⟨K,hK⟩:=eqIntS_l0 a.length [] [] a b rfl rfl hl.symm (by simpa using h)
  (try dsimp only at hK)
  refine ⟨K,fun k hk => ?_⟩
  (try dsimp only)
  unfold laws_eqIntS.f
  rw [if_pos (by omega)]
  exact hK k hk
 ·refine ⟨0,fun k _ => ?_⟩
  (try dsimp only)
  unfold laws_eqIntS.f
  rw [if_neg (by omega)]
  congr 1;symm
  rw [decide_eq_false_iff_not]
  rintro rfl;exact hl rfl

theorem szIntS_some2 (l : List Int) (a : Int) (ha : a ≤ 1048576) (ha0 : 0 ≤ a) (hl : l.length ≤ maxLen) : laws_szIntS.f l a = some (if (l.length : Int) ≤ a then a - l.length else -1):=by
 unfold maxLen at hl
 unfold laws_szIntS.f
 rw [wrap64_id (by omega) (by omega)]
 by_cases h : (l.length : Int) ≤ a
 ·rw [if_neg (by omega),if_pos h]
 ·rw [if_pos (by omega),if_neg h]
theorem szStep_some (op n : Int) (c : List Int) (a : Int) (ha : a ≤ 1048576) (ha0 : 0 ≤ a) (hc : c.length ≤ maxLen) :
  laws_szStep.f op n c a = some (if (c.length : Int) ≤ a then a - c.length else -1):=by
 unfold laws_szStep.f
 rw [szIntS_some2 c a ha ha0 hc,Option.bind_some]
 by_cases h : (c.length : Int) ≤ a
 ·rw [if_pos h,if_neg (by omega)]
 ·rw [if_neg h,if_pos (by omega)]
theorem toStep_ev (op n : Int) (c : List Int) (hc : c.length ≤ 1048576) : Ev (fun k => laws_toStep.f k op n c) (op,n,c):=by
 unfold laws_toStep.f
 exact Ev.bind (toIntS_ev c hc) (Ev.now _)

theorem eqStepS_ev (a b : List S56) (h : a.length ≤ 1000000000000000) (hx : ∀ x ∈ a,x.f2.length ≤ 1000000000000000) (hab : a = b) : Ev (fun k => laws_eqStepS.f k a b) true:=by
 subst hab
 unfold laws_eqStepS.f
 refine Ev.ite_pos rfl ?_
 refine Ev.rangeI a (fun k (_ : Unit) i => laws_eqStepS.l0 k a a i) (fun _ _ _ => true) (fun _ p => True) (fun _ hp => ?_) (fun _ p x q e hp ih => ?_) () trivial
 ·refine Ev.succ ?_
  simp only [laws_eqStepS.l0]
  exact Ev.ite_neg (by omega) (Ev.some rfl)
 ·refine Ev.succ ?_
  simp only [laws_eqStepS.l0]
  have hlen : p.length < a.length:=by rw [e];simp
  have hrd : rd_T56 a (p.length : Int) = x:=by unfold rd_T56;rw [e];exact getD_mid _ _ _ _
  refine Ev.ite_pos (by omega) (Ev.ite_pos (by omega) (Ev.ite_pos (by omega) ?_))
  rw [hrd]
  have h1 : Ev (fun k => laws_eqStep.f k x.f0 x.f1 x.f2 x.f0 x.f1 x.f2) true:=by
   unfold laws_eqStep.f
   refine Ev.ite_pos rfl (Ev.ite_pos rfl (Ev.bind (eqIntS_ev x.f2 x.f2 (hx x (by rw [e];simp))) (Ev.ite_pos (by simp) (Ev.some rfl))))
  refine Ev.bind h1 (Ev.ite_pos rfl ?_)
  rw [wrap_succ (by omega)]
  exact ih () trivial

/-- A law's step as the program's. -/
def cv (x : S55) : S56:=⟨x.f0,x.f1,x.f2⟩
def szST (a : Int) : List S55 → Int
 | [] => a
 | x :: q => if (x.f2.length : Int) ≤ a then szST (a - x.f2.length) q else -1
theorem szST_some (q : List S55) : ∀ a : Int,0 ≤ a → szST a q < 0 ∨ ∀ x ∈ q,(x.f2.length : Int) ≤ a:=by
 induction q with
 | nil => intro a _;exact .inr (by simp)
 | cons x q ih =>
  intro a ha
  unfold szST
  by_cases h : (x.f2.length : Int) ≤ a
  ·rw [if_pos h]
   rcases ih (a - x.f2.length) (by omega) with h1 | h1
   ·exact .inl h1
   ·refine .inr fun y hy => ?_
    rcases List.mem_cons.mp hy with rfl | hy
    ·exact h
    ·have:=h1 y hy;omega
  ·rw [if_neg h];exact .inl (by omega)
theorem szStepS_ev (l : List S55) (hl : l.length ≤ maxLen) (hx : ∀ x ∈ l,x.f2.length ≤ maxLen) :
  ∃ r,Ev (fun k => laws_szStepS.f k l 1048576) r ∧ (r < 0 ∨ l.length ≤ 1048576 ∧ ∀ x ∈ l,x.f2.length ≤ 1048576):=by
 have hl2:=hl
 unfold maxLen at hl2
 unfold laws_szStepS.f
 rw [wrap64_id (by omega) (by omega)]
 by_cases h : (l.length : Int) ≤ 1048576
 ·refine ⟨szST (1048576 - l.length) l,Ev.ite_neg (by omega) ?_,?_⟩
  ·refine Ev.rangeI l (fun k b i => laws_szStepS.l0 k l b i) (fun b _ q => szST b q) (fun b _ => 0 ≤ b ∧ b ≤ 1048576) (fun b _ => ?_) (fun b p x q e hb ih => ?_) _ ⟨by omega,by omega⟩
   ·refine Ev.succ ?_
    simp only [laws_szStepS.l0]
    exact Ev.ite_neg (by omega) (Ev.some rfl)
   ·refine Ev.succ ?_
    simp only [laws_szStepS.l0]
    have hlen : p.length < l.length:=by rw [e];simp
    refine Ev.ite_pos (by omega) (Ev.ite_pos (by omega) ?_)
    have hrd : rd_T55 l (p.length : Int) = x:=by unfold rd_T55;rw [e];exact getD_mid _ _ _ _
    rw [hrd,szStep_some x.f0 x.f1 x.f2 b (by omega) hb.1 (hx x (by rw [e];simp))]
    simp only [Option.bind_some]
    by_cases h1 : (x.f2.length : Int) ≤ b
    ·simp only [if_pos h1]
     refine Ev.ite_neg (by omega) ?_
     rw [wrap_succ (by omega),szST,if_pos h1]
     exact ih _ ⟨by omega,by omega⟩
    ·simp only [if_neg h1]
     refine Ev.ite_pos (by omega) (Ev.some ?_)
     rw [szST,if_neg h1]
  ·rcases szST_some l (1048576 - l.length) (by omega) with h1 | h1
   ·exact .inl h1
   ·exact .inr ⟨by omega,fun x hx => by have:=h1 x hx;omega⟩
 ·exact ⟨-1,Ev.ite_pos (by omega) (Ev.some rfl),.inl (by omega)⟩
theorem toStepS_ev (l : List S55) (hl : l.length ≤ 1048576) (hx : ∀ x ∈ l,x.f2.length ≤ 1048576) : Ev (fun k => laws_toStepS.f k l) (l.map cv):=by
 unfold laws_toStepS.f
 refine Ev.ite_pos (by omega) (Ev.ite_pos (by omega) ?_)
 rw [Int.toNat_natCast]
 have:=Ev.rangeI (ρ:=List S56) l (fun k b i => laws_toStepS.l0 k l b i) (fun _ _ _ => l.map cv) (fun b p => b = p.map cv ++ List.replicate (l.length - p.length) z56) (fun b hb => ?_) (fun b p x q e hb ih => ?_) (List.replicate l.length z56) (by simp)
 ·exact this
 ·refine Ev.succ ?_
  simp only [laws_toStepS.l0]
  refine Ev.ite_neg (by omega) (Ev.some ?_)
  rw [hb];simp
 ·refine Ev.succ ?_
  simp only [laws_toStepS.l0]
  have hlen : p.length < l.length:=by rw [e];simp
  have hbl : b.length = l.length:=by rw [hb];simp;omega
  have hrd : rd_T55 l (p.length : Int) = x:=by unfold rd_T55;rw [e];exact getD_mid _ _ _ _
  refine Ev.ite_pos (by omega) (Ev.ite_pos (by omega) ?_)
  rw [hrd]
  refine Ev.bind (toStep_ev x.f0 x.f1 x.f2 (hx x (by rw [e];simp))) (Ev.ite_pos (by omega) ?_)
  rw [Int.toNat_natCast,wrap_succ (by omega)]
  refine ih _ ?_
  have hpl : p.length = (p.map cv).length:=by simp
  rw [hb,show l.length - p.length = (l.length - (p ++ [x]).length) + 1 from by simp;omega,List.replicate_succ,hpl,set_mid]
  simp [cv]

theorem l1In_eq (a b c : Int) : spec_l1In.f a b c = some (decide (b ≤ a ∧ a ≤ c)):=by
 unfold spec_l1In.f
 by_cases h : a ≥ b
 ·rw [if_pos h];simp [show b ≤ a from h]
 ·rw [if_neg h];simp;omega

theorem within_eq (a b c : Int) : impl_within.f a b c = some (decide (b ≤ a ∧ a ≤ c)):=by
 unfold impl_within.f
 by_cases h : a ≥ b
 ·rw [if_pos h];simp [show b ≤ a from h]
 ·rw [if_neg h];simp;omega

theorem findIdx_any {α : Type} (p : α → Bool) (l : List α) : decide ((match l.findIdx? p with | some j => (j : Int) | none => -1) ≥ 0) = l.any p:=by
 rw [Bool.eq_iff_iff,decide_eq_true_iff,List.any_eq_true]
 cases hf : l.findIdx? p with
 | none =>
  rw [List.findIdx?_eq_none_iff] at hf
  constructor
  ·intro h;simp only [ge_iff_le] at h;omega
  ·rintro ⟨x,hx,h⟩;rw [hf x hx] at h;simp at h
 | some j =>
  constructor
  ·intro _
   obtain ⟨hj,h1,_⟩:=List.findIdx?_eq_some_iff_getElem.mp hf
   exact ⟨l[j],List.getElem_mem hj,h1⟩
  ·intro _;simp only [ge_iff_le];omega
/-- A loop that looks for the first element that is so. -/
theorem Ev.index {α : Type} (l : List α) (F : Nat → Int → Option Int) (pr : α → Bool)
  (h0 : Ev (fun k => F k (l.length : Int)) (-1))
  (hs : ∀ p x q,l = p ++ x :: q → pr x = true → Ev (fun k => F k (p.length : Int)) (p.length : Int))
  (hn : ∀ p x q r,l = p ++ x :: q → pr x = false → Ev (fun k => F k ((p.length : Int) + 1)) r → Ev (fun k => F k (p.length : Int)) r) :
  Ev (fun k => F k 0) (match l.findIdx? pr with | some j => (j : Int) | none => -1):=by
 have main : ∀ (q p : List α),l = p ++ q → Ev (fun k => F k (p.length : Int)) (match q.findIdx? pr with | some j => ((p.length + j : Nat) : Int) | none => -1):=by
  intro q
  induction q with
  | nil => intro p e;rw [e,List.append_nil] at h0;exact h0
  | cons x q ih =>
   intro p e
   cases hx : pr x with
   | true =>
    have:=hs p x q e hx
    rw [List.findIdx?_cons,hx];simpa using this
   | false =>
    have:=ih (p ++ [x]) (by rw [e];simp)
    have e2 : ((p ++ [x]).length : Int) = (p.length : Int) + 1:=by simp
    rw [e2] at this
    have:=hn p x q _ e hx this
    rw [List.findIdx?_cons,hx]
    refine Ev.cast this ?_
    cases q.findIdx? pr with
    | none => rfl
    | some j => simp;omega
 have:=main l [] rfl
 refine Ev.cast this ?_
 cases l.findIdx? pr with
 | none => rfl
 | some j => simp

/-- Whether a number is a depth. -/
def depthB (x : Int) : Bool:=decide (0 ≤ x ∧ x ≤ 8)
/-- Whether a step may stand somewhere. -/
def stepB (op n : Int) (tb : List Int) : Bool :=
 if op = 22 then depthB n && (decide (1 ≤ tb.length ∧ tb.length ≤ 4) && tb.all depthB)
 else if 0 < tb.length then false
 else if op = 1 then decide (0 ≤ n ∧ n ≤ 65535)
 else if op = 2 ∨ op = 3 then decide (0 ≤ n ∧ n ≤ 7)
 else if op = 20 ∨ op = 21 then depthB n
 else decide (1 ≤ op ∧ op ≤ 22) && decide (n = 0)
theorem depthOK_eq (a : Int) : impl_depthOK.f a = some (depthB a):=by
 unfold impl_depthOK.f;rw [within_eq];rfl
theorem l3Depth_eq (a : Int) : spec_l3Depth.f a = some (depthB a):=by
 unfold spec_l3Depth.f;rw [l1In_eq];rfl
theorem anyDepth_ev (l : List Int) (hl : l.length ≤ 1048576) : Ev (fun k => slices_ContainsFunc_int_int__impl_stepOK_1.f k l) (!l.all depthB):=by
 have hp : ∀ a : Int,impl_stepOK_1.f a = some (!depthB a):=by
  intro a;unfold impl_stepOK_1.f;rw [depthOK_eq];rfl
 have main:=Ev.index l (fun k i => slices_IndexFunc_int_int__impl_stepOK_1.l0 k l (l.length : Int) i) (fun a => !depthB a) ?_ ?_ ?_
 ·unfold slices_ContainsFunc_int_int__impl_stepOK_1.f slices_IndexFunc_int_int__impl_stepOK_1.f
  refine Ev.bind main (Ev.some ?_)
  rw [findIdx_any,List.not_all_eq_any_not]
 ·refine Ev.succ ?_
  simp only [slices_IndexFunc_int_int__impl_stepOK_1.l0]
  exact Ev.ite_neg (by omega) (Ev.now _)
 ·intro p x q e hx
  have hl : l.length = p.length + (q.length + 1):=by rw [e];simp
  have hr : rd l (p.length : Int) = x:=by rw [e];exact rd_mid p q x
  refine Ev.succ ?_
  simp only [slices_IndexFunc_int_int__impl_stepOK_1.l0,hp,hr,hx,Option.bind_some]
  exact Ev.ite_pos (by omega) (Ev.ite_pos (by omega) (Ev.ite_pos (by omega) (Ev.ite_pos (by trivial) (Ev.now _))))
 ·intro p x q r e hx hh
  have hl : l.length = p.length + (q.length + 1):=by rw [e];simp
  have hr : rd l (p.length : Int) = x:=by rw [e];exact rd_mid p q x
  refine Ev.succ ?_
  simp only [slices_IndexFunc_int_int__impl_stepOK_1.l0,hp,hr,hx,Option.bind_some]
  refine Ev.ite_pos (by omega) (Ev.ite_pos (by omega) (Ev.ite_pos (by omega) (Ev.ite_neg (by simp) ?_)))
  rw [wrap64_id (by omega) (by omega)]
  exact hh
theorem stepB_j1 (op n : Int) (tb : List Int) (t : Bool) (h22 : op ≠ 22) (h0 : ¬ 0 < tb.length) (h1 : op ≠ 1) (h2 : op ≠ 2) (h3 : op ≠ 3) (ht : t = decide (op = 20 ∨ op = 21)) :
  Ev (fun k => impl_stepOK.j1 k t op n tb) (stepB op n tb):=by
 have e : stepB op n tb = if op = 20 ∨ op = 21 then depthB n else decide (1 ≤ op ∧ op ≤ 22) && decide (n = 0):=by
  unfold stepB;rw [if_neg h22,if_neg h0,if_neg h1,if_neg (by omega)]
 refine Ev.succ ?_
 simp only [impl_stepOK.j1,depthOK_eq,within_eq,Option.bind_some]
 subst ht
 by_cases h : op = 20 ∨ op = 21
 ·exact Ev.ite_pos (by simpa using h) (Ev.some (by rw [e,if_pos h]))
 ·refine Ev.ite_neg (by simpa using h) ?_
  rw [e,if_neg h]
  by_cases h' : 1 ≤ op ∧ op ≤ 22
  ·exact Ev.ite_pos (by simpa using h') (Ev.some (by rw [decide_eq_true h'];simp [beq_dec]))
  ·exact Ev.ite_neg (by simpa using h') (Ev.some (by rw [decide_eq_false h'];rfl))
theorem stepOK_ev (op n : Int) (tb : List Int) (hl : tb.length ≤ 1048576) : Ev (fun k => impl_stepOK.f k op n tb) (stepB op n tb):=by
 unfold impl_stepOK.f
 by_cases h22 : op = 22
 ·refine Ev.ite_pos h22 ?_
  have e : stepB op n tb = (depthB n && (decide (1 ≤ tb.length ∧ tb.length ≤ 4) && tb.all depthB)):=by unfold stepB;rw [if_pos h22]
  rw [e]
  simp only [depthOK_eq,within_eq,Option.bind_some]
  cases hd : depthB n with
  | false => exact Ev.ite_neg (by simp) (Ev.now _)
  | true =>
   refine Ev.ite_pos rfl ?_
   by_cases hb : 1 ≤ tb.length ∧ tb.length ≤ 4
   ·refine Ev.ite_pos (by simp;omega) (Ev.bind (anyDepth_ev tb hl) (Ev.some ?_))
    rw [decide_eq_true hb,Bool.not_not];rfl
   ·refine Ev.ite_neg (by simp;omega) (Ev.some ?_)
    rw [decide_eq_false hb];rfl
 ·refine Ev.ite_neg h22 ?_
  by_cases h0 : 0 < tb.length
  ·refine Ev.ite_pos (by omega) (Ev.some ?_)
   unfold stepB;rw [if_neg h22,if_pos h0]
  ·refine Ev.ite_neg (by omega) ?_
   simp only [within_eq,Option.bind_some]
   by_cases h1 : op = 1
   ·refine Ev.ite_pos h1 (Ev.some ?_)
    unfold stepB;rw [if_neg h22,if_neg h0,if_pos h1]
   ·refine Ev.ite_neg h1 ?_
    by_cases h2 : op = 2
    ·refine Ev.ite_pos h2 (Ev.succ ?_)
     simp only [impl_stepOK.j0,within_eq,Option.bind_some]
     refine Ev.ite_pos (by simpa using h2) (Ev.some ?_)
     unfold stepB;rw [if_neg h22,if_neg h0,if_neg h1,if_pos (.inl h2)]
    ·refine Ev.ite_neg h2 (Ev.succ ?_)
     simp only [impl_stepOK.j0,within_eq,Option.bind_some]
     by_cases h3 : op = 3
     ·refine Ev.ite_pos (by simpa using h3) (Ev.some ?_)
      unfold stepB;rw [if_neg h22,if_neg h0,if_neg h1,if_pos (.inr h3)]
     ·refine Ev.ite_neg (by simpa using h3) ?_
      by_cases h20 : op = 20
      ·exact Ev.ite_pos h20 (stepB_j1 op n tb _ h22 h0 h1 h2 h3 (by simp [h20]))
      ·exact Ev.ite_neg h20 (stepB_j1 op n tb _ h22 h0 h1 h2 h3 (by simp [h20,beq_dec]))
theorem l3One_j2 (op n : Int) (tb : List Int) (t : Bool) (h22 : op ≠ 22) (h0 : ¬ 0 < tb.length) (h1 : op ≠ 1) (h2 : op ≠ 2) (h3 : op ≠ 3) (ht : t = decide (op = 20 ∨ op = 21)) :
  Ev (fun k => spec_l3One.j2 k t op n tb) (stepB op n tb):=by
 have e : stepB op n tb = if op = 20 ∨ op = 21 then depthB n else decide (1 ≤ op ∧ op ≤ 22) && decide (n = 0):=by
  unfold stepB;rw [if_neg h22,if_neg h0,if_neg h1,if_neg (by omega)]
 refine Ev.succ ?_
 simp only [spec_l3One.j2,l3Depth_eq,l1In_eq,Option.bind_some]
 subst ht
 by_cases h : op = 20 ∨ op = 21
 ·exact Ev.ite_pos (by simpa using h) (Ev.some (by rw [e,if_pos h]))
 ·refine Ev.ite_neg (by simpa using h) ?_
  rw [e,if_neg h]
  by_cases h' : 4 ≤ op ∧ op ≤ 19
  ·exact Ev.ite_pos (by simpa using h') (Ev.some (by rw [decide_eq_true (show 1 ≤ op ∧ op ≤ 22 by omega)];simp [beq_dec]))
  ·exact Ev.ite_neg (by simpa using h') (Ev.some (by rw [decide_eq_false (show ¬ (1 ≤ op ∧ op ≤ 22) by omega)];rfl))
theorem l3One_ev (op n : Int) (tb : List Int) (hl : tb.length ≤ 1048576) : Ev (fun k => spec_l3One.f k op n tb) (stepB op n tb):=by
 unfold spec_l3One.f
 by_cases h22 : op = 22
 ·refine Ev.ite_pos h22 ?_
  have e : stepB op n tb = (tb.all depthB && (depthB n && decide (1 ≤ tb.length ∧ tb.length ≤ 4))):=by
   unfold stepB;rw [if_pos h22]
   cases depthB n <;> cases tb.all depthB <;> simp
  rw [e]
  refine Ev.range tb (fun k (_ : Unit) i => spec_l3One.l0 k tb (tb.length : Int) i op n tb) (fun _ q => q.all depthB && (depthB n && decide (1 ≤ tb.length ∧ tb.length ≤ 4))) (fun _ _ => True) ?_ ?_ () trivial
  ·intro _ _
   refine Ev.succ ?_
   simp only [spec_l3One.l0,l3Depth_eq,l1In_eq,Option.bind_some]
   refine Ev.ite_neg (by omega) ?_
   cases hd : depthB n with
   | false => exact Ev.ite_neg (by simp) (Ev.some (by simp))
   | true => exact Ev.ite_pos rfl (Ev.some (by simp only [List.all_nil,Bool.true_and,decide_eq_decide];omega))
  ·intro _ p x q e _ ih
   have hl : tb.length = p.length + (q.length + 1):=by rw [e];simp
   have hr : rd tb (p.length : Int) = x:=by rw [e];exact rd_mid p q x
   refine Ev.succ ?_
   simp only [spec_l3One.l0,l3Depth_eq,hr,Option.bind_some]
   refine Ev.ite_pos (by omega) (Ev.ite_pos (by omega) (Ev.ite_pos (by omega) ?_))
   cases hx : depthB x with
   | false => exact Ev.ite_neg (by simp) (Ev.some (by simp [hx]))
   | true =>
    refine Ev.ite_pos rfl ?_
    rw [wrap64_id (by omega) (by omega)]
    exact Ev.cast (ih () trivial) (by simp [hx])
 ·refine Ev.ite_neg h22 ?_
  by_cases h0 : 0 < tb.length
  ·refine Ev.ite_pos (by omega) (Ev.some ?_)
   unfold stepB;rw [if_neg h22,if_pos h0]
  ·refine Ev.ite_neg (by omega) ?_
   simp only [l1In_eq,Option.bind_some]
   by_cases h1 : op = 1
   ·refine Ev.ite_pos h1 (Ev.some ?_)
    unfold stepB;rw [if_neg h22,if_neg h0,if_pos h1]
   ·refine Ev.ite_neg h1 ?_
    by_cases h2 : op = 2
    ·refine Ev.ite_pos h2 (Ev.succ ?_)
     simp only [spec_l3One.j1,l1In_eq,Option.bind_some]
     refine Ev.ite_pos (by simpa using h2) (Ev.some ?_)
     unfold stepB;rw [if_neg h22,if_neg h0,if_neg h1,if_pos (.inl h2)]
    ·refine Ev.ite_neg h2 (Ev.succ ?_)
     simp only [spec_l3One.j1,l1In_eq,Option.bind_some]
     by_cases h3 : op = 3
     ·refine Ev.ite_pos (by simpa using h3) (Ev.some ?_)
      unfold stepB;rw [if_neg h22,if_neg h0,if_neg h1,if_pos (.inr h3)]
     ·refine Ev.ite_neg (by simpa using h3) ?_
      by_cases h20 : op = 20
      ·exact Ev.ite_pos h20 (l3One_j2 op n tb _ h22 h0 h1 h2 h3 (by simp [h20]))
      ·exact Ev.ite_neg h20 (l3One_j2 op n tb _ h22 h0 h1 h2 h3 (by simp [h20,beq_dec]))

/-- A step that may stand somewhere. -/
def stB (x : S56) : Bool:=stepB x.f0 x.f1 x.f2
def opB (op : Int) : Bool:=decide (15 ≤ op ∧ op ≤ 17)
/-- All depths are at most one. -/
def wiB (x : S56) (n : Int) : Bool:=x.f2.all (fun y => decide (y ≤ n)) && (decide (x.f0 < 20) || decide (x.f1 ≤ n))
theorem l3Opens_eq (a : Int) : spec_l3Opens.f a = some (opB a):=by
 unfold spec_l3Opens.f;rw [l1In_eq];rfl
theorem l3Within_ev (x : S56) (n : Int) (hl : x.f2.length ≤ 1048576) : Ev (fun k => spec_l3Within.f k x.f0 x.f1 x.f2 n) (wiB x n):=by
 unfold spec_l3Within.f
 refine Ev.range x.f2 (fun k (_ : Unit) i => spec_l3Within.l0 k n x.f2 (x.f2.length : Int) i x.f0 x.f1 x.f2) (fun _ q => q.all (fun y => decide (y ≤ n)) && (decide (x.f0 < 20) || decide (x.f1 ≤ n))) (fun _ _ => True) (fun _ _ => ?_) (fun _ p y q e _ ih => ?_) () trivial
 ·refine Ev.succ ?_
  simp only [spec_l3Within.l0]
  refine Ev.ite_neg (by omega) ?_
  by_cases h : x.f0 < 20
  ·exact Ev.ite_pos h (Ev.some (by simp [h]))
  ·exact Ev.ite_neg h (Ev.some (by simp [h]))
 ·have hlen : p.length < x.f2.length:=by rw [e];simp
  have hr : rd x.f2 (p.length : Int) = y:=by rw [e];exact rd_mid p q y
  refine Ev.succ ?_
  simp only [spec_l3Within.l0,hr]
  refine Ev.ite_pos (by omega) (Ev.ite_pos (by omega) (Ev.ite_pos (by omega) ?_))
  by_cases h : y > n
  ·refine Ev.ite_pos h (Ev.some ?_)
   have h2 : decide (y ≤ n) = false:=decide_eq_false (by omega)
   simp [h2]
  ·refine Ev.ite_neg h ?_
   rw [wrap_succ (by omega),List.all_cons,decide_eq_true (show y ≤ n by omega),Bool.true_and]
   exact ih () trivial
/-- The last of those that are open. -/
def topS (st : List Int) : Int:=rd st ((st.length - 1 : Nat) : Int)
/-- The specification's ends: so far, and those that are open. -/
def enR (l : List S56) : List S56 → List Int → List Int → List Int × Bool
 | [],out,st => (out,decide (st.length = 0) && decide (l.length ≤ 60))
 | x :: q,out,st =>
  if stB x = true ∧ wiB x st.length = true then
   (if opB x.f0 = true then (if st.length = 8 then ([],false) else enR l q (out ++ [-1]) (st ++ [(out.length : Int)]))
   else if x.f0 = 18 then (if st.length = 0 then ([],false) else (if (rd_T56 l (topS st)).f0 = 17 then (if rd (out ++ [-1]) (topS st) ≥ 0 then ([],false) else enR l q ((out ++ [-1]).set (topS st).toNat (out.length : Int)) st) else ([],false)))
   else if x.f0 = 19 then (if st.length = 0 then ([],false) else (if rd (out ++ [-1]) (topS st) ≥ 0 then enR l q ((((out ++ [-1]).set (rd (out ++ [-1]) (topS st)).toNat (out.length : Int)).set (topS st).toNat (out.length : Int)).set out.length (topS st)) (st.take (st.length - 1)) else enR l q (((out ++ [-1]).set (topS st).toNat (out.length : Int)).set out.length (topS st)) (st.take (st.length - 1))))
   else enR l q (out ++ [-1]) st)
  else ([],false)
theorem topS_mem {st : List Int} (h : st.length ≠ 0) : topS st ∈ st:=by
 unfold topS rd
 rw [Int.toNat_natCast,List.getD_eq_getElem?_getD,List.getElem?_eq_getElem (by omega)]
 exact List.getElem_mem _
theorem rd_mem {l : List Int} {i : Int} (h0 : 0 ≤ i) (h : i < l.length) : rd l i ∈ l:=by
 unfold rd
 rw [List.getD_eq_getElem?_getD,List.getElem?_eq_getElem (by omega)]
 exact List.getElem_mem _
theorem set_mem_or {l : List Int} {n : Nat} {a y : Int} (h : y ∈ l.set n a) : y ∈ l ∨ y = a:=List.mem_or_eq_of_mem_set h
/-- What holds of the specification's state at a place. -/
structure SInv (out st : List Int) (i : Nat) : Prop where
 len : out.length = i
 st0 : ∀ s ∈ st,0 ≤ s ∧ s < i
 out0 : ∀ y ∈ out,-1 ≤ y ∧ y < i
theorem SInv.stw {out st : List Int} {i : Nat} (h : SInv out st i) : ∀ s ∈ st,0 ≤ s ∧ s < (i : Int) + 1:=fun s hs => by have:=h.st0 s hs;omega
theorem SInv.outw {out st : List Int} {i : Nat} (h : SInv out st i) : ∀ y ∈ out ++ [-1],-1 ≤ y ∧ y < (i : Int) + 1:=fun y hy => by
 rcases List.mem_append.1 hy with hy | hy
 ·have:=h.out0 y hy;omega
 ·simp only [List.mem_singleton] at hy;omega
theorem setAll {l : List Int} {n : Nat} {a : Int} {P : Int → Prop} (h : ∀ y ∈ l,P y) (ha : P a) : ∀ y ∈ l.set n a,P y:=fun y hy => by
 rcases set_mem_or hy with h1 | rfl
 ·exact h y h1
 ·exact ha
theorem l3Ends_ev (l : List S56) (hl : l.length ≤ 1048576) (hx : ∀ x ∈ l,x.f2.length ≤ 1048576) : Ev (fun k => spec_l3Ends.f k l) (enR l l [] []):=by
 unfold spec_l3Ends.f
 refine Ev.rangeI l (fun k (b : List Int × List Int) i => spec_l3Ends.l0 k l b.1 b.2 l (l.length : Int) i) (fun b _ q => enR l q b.1 b.2) (fun b p => SInv b.1 b.2 p.length ∧ b.2.length ≤ 8) (fun b hb => ?_) (fun b p x q e hb ih => ?_) ([],[]) ⟨⟨rfl,fun s hs => absurd hs (by simp),fun s hs => absurd hs (by simp)⟩,by simp⟩
 ·obtain ⟨out,st⟩:=b
  refine Ev.succ ?_
  simp only [spec_l3Ends.l0,enR]
  refine Ev.ite_neg (by omega) ?_
  by_cases h : st.length = 0
  ·refine Ev.ite_pos (by omega) (Ev.some ?_)
   rw [decide_eq_true h,Bool.true_and]
   congr 1
   rw [decide_eq_decide];omega
  ·refine Ev.ite_neg (by omega) (Ev.some ?_)
   rw [decide_eq_false h,Bool.false_and]
 ·obtain ⟨out,st⟩:=b
  obtain ⟨hI,hsl⟩:=hb
  dsimp only at hI hsl
  have hlen : p.length < l.length:=by rw [e];simp
  have hr : rd_T56 l (p.length : Int) = x:=by unfold rd_T56;rw [e];exact getD_mid _ _ _ _
  have hxx:=hx x (by rw [e];simp)
  have hol:=hI.len
  have hM : (out ++ [-1]).length = p.length + 1:=by simp [hol]
  refine Ev.succ ?_
  simp only [spec_l3Ends.l0,hr]
  refine Ev.ite_pos (by omega) (Ev.ite_pos (by omega) (Ev.ite_pos (by omega) (Ev.ite_pos (by omega) ?_)))
  simp only [Option.bind_some]
  refine Ev.bind (l3One_ev x.f0 x.f1 x.f2 hxx) ?_
  have bad : ∀ t,Ev (fun k => spec_l3Ends.j1 k l (out ++ [-1]) st (p.length : Int) (st.length : Int) l (l.length : Int) (p.length : Int) true t x.f1 x.f2) ([],false):=fun t => by
   refine Ev.succ ?_
   simp only [spec_l3Ends.j1]
   exact Ev.ite_pos (by trivial) (Ev.some rfl)
  by_cases h1 : stepB x.f0 x.f1 x.f2 = true
  rotate_left
  ·refine Ev.ite_neg h1 ?_
   refine Ev.cast (bad _) ?_
   rw [enR,if_neg (fun h => h1 h.1)]
  refine Ev.ite_pos h1 (Ev.bind (l3Within_ev x st.length hxx) ?_)
  by_cases h2 : wiB x st.length = true
  rotate_left
  ·rw [Bool.not_eq_true] at h2
   rw [h2]
   refine Ev.cast (bad _) ?_
   rw [enR,if_neg (fun h => absurd h.2 (by rw [h2];decide))]
  rw [h2]
  refine Ev.cast (r:=enR l (x :: q) out st) ?_ rfl
  rw [enR,if_pos ⟨h1,h2⟩,← hol]
  refine Ev.succ ?_
  simp only [spec_l3Ends.j1,l3Opens_eq,Option.bind_some]
  refine Ev.ite_neg (by decide) ?_
  rw [hol,wrap_succ (by omega)]
  have next : ∀ o' s',SInv o' s' (p.length + 1) → s'.length ≤ 8 → Ev (fun k => spec_l3Ends.l0 k l o' s' l (l.length : Int) ((p.length : Int) + 1)) (enR l q o' s'):=fun o' s' h h' => ih (o',s') ⟨by rw [List.length_append];exact h,h'⟩
  have hd : ∀ s ∈ st,s < 1048576:=fun s hs => by have:=(hI.st0 s hs).2;omega
  by_cases h3 : opB x.f0 = true
  ·rw [if_pos h3]
   refine Ev.ite_pos h3 ?_
   by_cases h4 : st.length = 8
   ·rw [if_pos h4]
    exact Ev.ite_pos (by omega) (Ev.some rfl)
   ·rw [if_neg h4]
    refine Ev.ite_neg (by omega) (Ev.ite_pos (by omega) ?_)
    refine next _ _ ⟨hM,fun s hs => ?_,fun y hy => by have:=hI.outw y hy;omega⟩ ?_
    ·rcases List.mem_append.1 hs with hs | hs
     ·have:=hI.st0 s hs;omega
     ·simp only [List.mem_singleton] at hs;omega
    ·rw [List.length_append,List.length_singleton];omega
  rw [if_neg h3]
  refine Ev.ite_neg h3 ?_
  by_cases h4 : x.f0 = 18
  ·rw [if_pos h4]
   refine Ev.ite_pos h4 ?_
   by_cases h5 : st.length = 0
   ·rw [if_pos h5]
    exact Ev.ite_pos (by omega) (Ev.some rfl)
   rw [if_neg h5]
   have hw : wrap64 ((st.length : Int) - 1) = ((st.length - 1 : Nat) : Int):=by rw [wrap64_id (by omega) (by omega)];omega
   have ht:=topS_mem h5
   obtain ⟨t0,t1⟩:=hI.st0 _ ht
   simp only [hw,show rd st ((st.length - 1 : Nat) : Int) = topS st from rfl]
   refine Ev.ite_neg (by omega) (Ev.ite_pos (by omega) (Ev.ite_pos (by omega) (Ev.ite_pos (by omega) (Ev.ite_pos (by omega) ?_))))
   by_cases h6 : (rd_T56 l (topS st)).f0 = 17
   ·rw [if_pos h6]
    refine Ev.ite_pos h6 (Ev.ite_pos (by omega) ?_)
    by_cases h7 : rd (out ++ [-1]) (topS st) ≥ 0
    ·rw [if_pos h7]
     exact Ev.ite_pos h7 (Ev.some rfl)
    ·rw [if_neg h7]
     refine Ev.ite_neg h7 ?_
     exact next _ _ ⟨by rw [List.length_set];exact hM,fun s hs => by have:=hI.st0 s hs;omega,setAll (fun y hy => by have:=hI.outw y hy;omega) (by omega)⟩ hsl
   ·rw [if_neg h6]
    exact Ev.ite_neg h6 (Ev.some rfl)
  rw [if_neg h4]
  refine Ev.ite_neg h4 ?_
  by_cases h5 : x.f0 = 19
  ·rw [if_pos h5]
   refine Ev.ite_pos h5 ?_
   by_cases h6 : st.length = 0
   ·rw [if_pos h6]
    exact Ev.ite_pos (by omega) (Ev.some rfl)
   rw [if_neg h6]
   have hw : wrap64 ((st.length : Int) - 1) = ((st.length - 1 : Nat) : Int):=by rw [wrap64_id (by omega) (by omega)];omega
   have ht:=topS_mem h6
   obtain ⟨t0,t1⟩:=hI.st0 _ ht
   simp only [hw,show rd st ((st.length - 1 : Nat) : Int) = topS st from rfl,Int.toNat_natCast,Option.bind_some]
   refine Ev.ite_neg (by omega) (Ev.ite_pos (by omega) (Ev.ite_pos (by omega) (Ev.ite_pos (by omega) (Ev.ite_pos (by omega) (Ev.ite_pos (by omega) ?_)))))
   have hst : ∀ s ∈ st.take (st.length - 1),0 ≤ s ∧ s < ((p.length + 1 : Nat) : Int):=fun s hs => by have:=hI.st0 s (List.mem_of_mem_take hs);omega
   have hsl' : (st.take (st.length - 1)).length ≤ 8:=by rw [List.length_take];omega
   have hout : ∀ y ∈ out ++ [-1],-1 ≤ y ∧ y < ((p.length + 1 : Nat) : Int):=fun y hy => by have:=hI.outw y hy;omega
   by_cases h7 : rd (out ++ [-1]) (topS st) ≥ 0
   ·rw [if_pos h7]
    have h8:=hout _ (rd_mem (l:=out ++ [-1]) (i:=topS st) t0 (by omega))
    refine Ev.ite_pos h7 (Ev.ite_pos (by omega) (Ev.ite_pos (by omega) (Ev.ite_pos (by omega) (Ev.ite_pos (by omega) ?_))))
    exact next _ _ ⟨by rw [List.length_set,List.length_set,List.length_set];exact hM,hst,setAll (setAll (setAll hout (by omega)) (by omega)) (by omega)⟩ hsl'
   ·rw [if_neg h7]
    refine Ev.ite_neg h7 (Ev.ite_pos (by omega) (Ev.ite_pos (by omega) ?_))
    exact next _ _ ⟨by rw [List.length_set,List.length_set];exact hM,hst,setAll (setAll hout (by omega)) (by omega)⟩ hsl'
  rw [if_neg h5]
  refine Ev.ite_neg h5 ?_
  exact next _ _ ⟨hM,fun s hs => by have:=hI.st0 s hs;omega,fun y hy => by have:=hI.outw y hy;omega⟩ hsl

def maxL : List Int → Int → Int
 | [],m => m
 | x :: q,m => maxL q (mx m x)
theorem maxL_le (q : List Int) : ∀ m n : Int,maxL q m ≤ n ↔ m ≤ n ∧ ∀ y ∈ q,y ≤ n:=by
 induction q with
 | nil => intro m n;simp [maxL]
 | cons x q ih =>
  intro m n
  rw [maxL,ih]
  unfold mx
  simp only [List.mem_cons,forall_eq_or_imp]
  split <;> constructor <;> rintro ⟨h1,h2⟩
  ·exact ⟨by omega,h1,h2⟩
  ·exact ⟨h2.1,h2.2⟩
  ·exact ⟨h1,by omega,h2⟩
  ·exact ⟨h1,h2.2⟩
theorem max_ev (x : Int) (q : List Int) (hl : (x :: q).length ≤ 1048576) : Ev (fun k => slices_Max_int_int.f k (x :: q)) (maxL q x):=by
 unfold slices_Max_int_int.f
 refine Ev.ite_neg (by simp only [List.length_cons];omega) (Ev.ite_pos (by simp only [List.length_cons];omega) ?_)
 have main : ∀ (r p : List Int) (m : Int),x :: q = p ++ r → Ev (fun k => slices_Max_int_int.l0 k (x :: q) m (p.length : Int)) (maxL r m):=by
  intro r
  induction r with
  | nil =>
   intro p m e
   refine Ev.succ ?_
   simp only [slices_Max_int_int.l0]
   have : (x :: q).length = p.length:=by rw [e];simp
   exact Ev.ite_neg (by omega) (Ev.some rfl)
  | cons y r ih =>
   intro p m e
   refine Ev.succ ?_
   simp only [slices_Max_int_int.l0]
   have hlen : p.length < (x :: q).length:=by rw [e];simp
   have hr : rd (x :: q) (p.length : Int) = y:=by rw [e];exact rd_mid p r y
   refine Ev.ite_pos (by omega) (Ev.ite_pos (by omega) ?_)
   rw [hr,wrap_succ (by omega)]
   have:=ih (p ++ [y]) (mx m y) (by rw [e];simp)
   rw [show ((p ++ [y]).length : Int) = (p.length : Int) + 1 from by simp] at this
   exact this
 have:=main q [x] x rfl
 exact this
theorem opens_eq (a : Int) : impl_opens.f a = some (opB a):=by
 unfold impl_opens.f opB
 by_cases h : a = 15
 ·rw [if_pos h];simp [h]
 by_cases h' : a = 16
 ·rw [if_neg h,if_pos h'];simp [h']
 rw [if_neg h,if_neg h']
 congr 1
 rw [beq_dec,decide_eq_decide];omega
/-- How far out a step goes tells whether it is within. -/
theorem deep_ev (x : S56) (hx : x.f2.length ≤ 1048576) (hg : stB x = true) : ∃ d,Ev (fun k => impl_Step_deepest.f k x.f0 x.f1 x.f2) d ∧ ∀ n : Nat,d > (n : Int) ↔ wiB x n = false:=by
 unfold stB stepB at hg
 unfold impl_Step_deepest.f wiB
 by_cases h22 : x.f0 = 22
 ·rw [if_pos h22] at hg
  obtain ⟨tb,htb⟩ : ∃ tb,tb = x.f2:=⟨_,rfl⟩
  rw [← htb] at hg hx ⊢
  match tb with
  | [] => simp at hg
  | y :: q =>
   refine ⟨mx x.f1 (maxL q y),Ev.ite_neg (by omega) (Ev.succ ?_),fun n => ?_⟩
   ·simp only [impl_Step_deepest.j0]
    exact Ev.ite_neg (by simp [h22]) (Ev.ite_pos h22 (Ev.bind (max_ev y q hx) (Ev.some rfl)))
   ·have h1 : (mx x.f1 (maxL q y) ≤ (n : Int)) ↔ x.f1 ≤ n ∧ y ≤ n ∧ ∀ z ∈ q,z ≤ (n : Int):=by
     rw [← maxL_le];unfold mx;split <;> omega
    rw [gt_iff_lt,← Int.not_le,h1,← Bool.not_eq_true,not_congr]
    rw [Bool.and_eq_true,Bool.or_eq_true,decide_eq_true_iff,decide_eq_true_iff,List.all_eq_true]
    constructor
    ·rintro ⟨a,b,c⟩
     refine ⟨fun z hz => ?_,.inr a⟩
     rcases List.mem_cons.1 hz with rfl | hz
     ·exact decide_eq_true b
     ·exact decide_eq_true (c z hz)
    ·rintro ⟨a,b⟩
     exact ⟨b.resolve_left (by omega),of_decide_eq_true (a y (by simp)),fun z hz => of_decide_eq_true (a z (by simp [hz]))⟩
 rw [if_neg h22] at hg
 by_cases h0 : 0 < x.f2.length
 ·rw [if_pos h0] at hg;simp at hg
 have hnil : x.f2 = []:=List.eq_nil_of_length_eq_zero (by omega)
 rw [if_neg h0] at hg
 rw [hnil]
 by_cases h20 : x.f0 = 20 ∨ x.f0 = 21
 ·refine ⟨x.f1,?_,fun n => ?_⟩
  ·by_cases h : x.f0 = 20
   ·refine Ev.ite_pos h (Ev.succ ?_)
    simp only [impl_Step_deepest.j0]
    exact Ev.ite_pos (by simp [h]) (Ev.some rfl)
   ·refine Ev.ite_neg h (Ev.succ ?_)
    simp only [impl_Step_deepest.j0]
    exact Ev.ite_pos (by simp;omega) (Ev.some rfl)
  ·rw [List.all_nil,Bool.true_and,decide_eq_false (by omega),Bool.false_or,decide_eq_false_iff_not];omega
 ·have h19 : x.f0 < 20:=by
   by_cases a1 : x.f0 = 1
   ·omega
   rw [if_neg a1] at hg
   by_cases a2 : x.f0 = 2 ∨ x.f0 = 3
   ·omega
   rw [if_neg a2,if_neg h20,Bool.and_eq_true,decide_eq_true_iff] at hg
   omega
  refine ⟨-1,Ev.ite_neg (by omega) (Ev.succ ?_),fun n => ?_⟩
  ·simp only [impl_Step_deepest.j0]
   exact Ev.ite_neg (by simp;omega) (Ev.ite_neg (by omega) (Ev.some rfl))
  ·rw [List.all_nil,Bool.true_and,decide_eq_true h19,Bool.true_or]
   constructor
   ·intro h;omega
   ·intro h;simp at h
theorem anyStep_ev (l : List S56) (hl : l.length ≤ 1048576) (hx : ∀ x ∈ l,x.f2.length ≤ 1048576) : Ev (fun k => slices_ContainsFunc_impl_Step__impl_shapeOf_1.f k l) (!l.all stB):=by
 have hp : ∀ x : S56,x.f2.length ≤ 1048576 → Ev (fun k => impl_shapeOf_1.f k x.f0 x.f1 x.f2) (!stB x):=by
  intro x h;unfold impl_shapeOf_1.f;exact Ev.bind (stepOK_ev x.f0 x.f1 x.f2 h) (Ev.some rfl)
 have main:=Ev.index l (fun k i => slices_IndexFunc_impl_Step__impl_shapeOf_1.l0 k l (l.length : Int) i) (fun a => !stB a) ?_ ?_ ?_
 ·unfold slices_ContainsFunc_impl_Step__impl_shapeOf_1.f slices_IndexFunc_impl_Step__impl_shapeOf_1.f
  refine Ev.bind main (Ev.some ?_)
  rw [findIdx_any,List.not_all_eq_any_not]
 ·refine Ev.succ ?_
  simp only [slices_IndexFunc_impl_Step__impl_shapeOf_1.l0]
  exact Ev.ite_neg (by omega) (Ev.now _)
 ·intro p x q e hxx
  have hlen : l.length = p.length + (q.length + 1):=by rw [e];simp
  have hr : rd_T56 l (p.length : Int) = x:=by unfold rd_T56;rw [e];exact getD_mid _ _ _ _
  refine Ev.succ ?_
  simp only [slices_IndexFunc_impl_Step__impl_shapeOf_1.l0,hr]
  refine Ev.ite_pos (by omega) (Ev.ite_pos (by omega) (Ev.ite_pos (by omega) (Ev.bind (hp x (hx x (by rw [e];simp))) ?_)))
  rw [hxx]
  exact Ev.ite_pos rfl (Ev.now _)
 ·intro p x q r e hxx hh
  have hlen : l.length = p.length + (q.length + 1):=by rw [e];simp
  have hr : rd_T56 l (p.length : Int) = x:=by unfold rd_T56;rw [e];exact getD_mid _ _ _ _
  refine Ev.succ ?_
  simp only [slices_IndexFunc_impl_Step__impl_shapeOf_1.l0,hr]
  refine Ev.ite_pos (by omega) (Ev.ite_pos (by omega) (Ev.ite_pos (by omega) (Ev.bind (hp x (hx x (by rw [e];simp))) ?_)))
  rw [hxx]
  refine Ev.ite_neg (by simp) ?_
  rw [wrap64_id (by omega) (by omega)]
  exact hh
/-- The shape: ends, others, what is open at each place. -/
def shR (l : List S56) : List S56 → List Int → List Int → List (List Int) → List Int → Nat → Option (List Int × List Int × List (List Int))
 | [],e,o,p,st,_ => if st.length = 0 then some (e,o,p) else none
 | x :: q,e,o,p,st,i =>
  if wiB x st.length = true then
   (if opB x.f0 = true then (if st.length + 1 > 8 then none else shR l q e o (p.set i st) (st ++ [(i : Int)]) (i + 1))
   else if x.f0 = 18 then (if st.length = 0 then none else (if (rd_T56 l (topS st)).f0 = 17 then (if 0 ≤ rd o (topS st) then none else shR l q e (o.set (topS st).toNat (i : Int)) (p.set i st) st (i + 1)) else none))
   else if x.f0 = 19 then (if st.length = 0 then none else (if 0 ≤ rd o (topS st) then shR l q (((e.set i (topS st)).set (topS st).toNat (i : Int)).set (rd o (topS st)).toNat (i : Int)) o (p.set i st) (st.take (st.length - 1)) (i + 1) else shR l q ((e.set i (topS st)).set (topS st).toNat (i : Int)) o (p.set i st) (st.take (st.length - 1)) (i + 1)))
   else shR l q e o (p.set i st) st (i + 1))
  else none
theorem shapeL_ev (l : List S56) (hl : l.length ≤ 60) (hx : ∀ x ∈ l,x.f2.length ≤ 1048576) (hg : ∀ x ∈ l,stB x = true) :
  ∀ (q p0 : List S56) (e o : List Int) (p : List (List Int)) (st : List Int),l = p0 ++ q → o.length = l.length → (∀ s ∈ st,0 ≤ s ∧ s < p0.length) → (∀ y ∈ o,y < p0.length) → st.length ≤ 8 →
   Ev (fun k => impl_shapeOf.l0 k l e o p st p0.length) (shR l q e o p st p0.length):=by
 intro q
 induction q with
 | nil =>
  intro p0 e o p st eq ho hst hoo hsl
  refine Ev.succ ?_
  simp only [impl_shapeOf.l0,shR]
  have : l.length = p0.length:=by rw [eq];simp
  refine Ev.ite_neg (by omega) ?_
  by_cases h : st.length = 0
  ·rw [if_pos h];exact Ev.ite_neg (by omega) (Ev.some rfl)
  ·rw [if_neg h];exact Ev.ite_pos (by omega) (Ev.some rfl)
 | cons x q ih =>
  intro p0 e o p st eq ho hst hoo hsl
  have hlen : p0.length < l.length:=by rw [eq];simp
  have hr : rd_T56 l (p0.length : Int) = x:=by unfold rd_T56;rw [eq];exact getD_mid _ _ _ _
  have hxl : x ∈ l:=by rw [eq];simp
  obtain ⟨d,hd,hdw⟩:=deep_ev x (hx x hxl) (hg x hxl)
  have next : ∀ e' o' p' st',o'.length = l.length → (∀ s ∈ st',0 ≤ s ∧ s < ((p0.length + 1 : Nat) : Int)) → (∀ y ∈ o',y < ((p0.length + 1 : Nat) : Int)) → st'.length ≤ 8 → Ev (fun k => impl_shapeOf.l0 k l e' o' p' st' (p0.length + 1)) (shR l q e' o' p' st' (p0.length + 1)):=fun e' o' p' st' h1 h2 h3 h4 => by
   have:=ih (p0 ++ [x]) e' o' p' st' (by rw [eq];simp) h1 (by rw [List.length_append];exact h2) (by rw [List.length_append];exact h3) h4
   rw [List.length_append] at this
   exact this
  have hst1 : ∀ s ∈ st,0 ≤ s ∧ s < ((p0.length + 1 : Nat) : Int):=fun s hs => by have:=hst s hs;omega
  have hoo1 : ∀ y ∈ o,y < ((p0.length + 1 : Nat) : Int):=fun y hy => by have:=hoo y hy;omega
  refine Ev.succ ?_
  simp only [impl_shapeOf.l0,hr,opens_eq,Option.bind_some]
  refine Ev.ite_pos hlen (Ev.ite_pos (by omega) (Ev.bind hd ?_))
  rw [shR]
  by_cases h2 : wiB x st.length = true
  rotate_left
  ·rw [if_neg h2]
   rw [Bool.not_eq_true] at h2
   exact Ev.ite_pos ((hdw _).2 h2) (Ev.some rfl)
  rw [if_pos h2]
  refine Ev.ite_neg (fun h => absurd ((hdw _).1 h) (by rw [h2];decide)) ?_
  by_cases h3 : opB x.f0 = true
  ·rw [if_pos h3]
   refine Ev.ite_pos h3 ?_
   by_cases h4 : st.length + 1 > 8
   ·rw [if_pos h4];exact Ev.ite_pos h4 (Ev.some rfl)
   ·rw [if_neg h4]
    refine Ev.ite_neg h4 (next _ _ _ _ ho (fun s hs => ?_) hoo1 (by rw [List.length_append,List.length_singleton];omega))
    rcases List.mem_append.1 hs with hs | hs
    ·exact hst1 s hs
    ·simp only [List.mem_singleton] at hs;omega
  rw [if_neg h3]
  refine Ev.ite_neg h3 ?_
  by_cases h4 : x.f0 = 18
  ·rw [if_pos h4]
   refine Ev.ite_pos h4 ?_
   by_cases h5 : st.length = 0
   ·rw [if_pos h5];exact Ev.ite_pos h5 (Ev.some rfl)
   rw [if_neg h5]
   obtain ⟨t0,t1⟩:=hst _ (topS_mem h5)
   simp only [show rd st ((st.length - 1 : Nat) : Int) = topS st from rfl]
   refine Ev.ite_neg h5 (Ev.ite_pos t0 (Ev.ite_pos (by omega) ?_))
   by_cases h6 : (rd_T56 l (topS st)).f0 = 17
   ·rw [if_pos h6]
    refine Ev.ite_pos h6 ?_
    by_cases h7 : 0 ≤ rd o (topS st)
    ·rw [if_pos h7];exact Ev.ite_pos h7 (Ev.some rfl)
    ·rw [if_neg h7]
     exact Ev.ite_neg h7 (next _ _ _ _ (by rw [List.length_set];exact ho) hst1 (setAll hoo1 (by omega)) hsl)
   ·rw [if_neg h6];exact Ev.ite_neg h6 (Ev.some rfl)
  rw [if_neg h4]
  refine Ev.ite_neg h4 ?_
  by_cases h5 : x.f0 = 19
  ·rw [if_pos h5]
   refine Ev.ite_pos h5 ?_
   by_cases h6 : st.length = 0
   ·rw [if_pos h6];exact Ev.ite_pos h6 (Ev.some rfl)
   rw [if_neg h6]
   obtain ⟨t0,t1⟩:=hst _ (topS_mem h6)
   simp only [show rd st ((st.length - 1 : Nat) : Int) = topS st from rfl]
   refine Ev.ite_neg h6 (Ev.ite_pos t0 (Ev.ite_pos (by omega) ?_))
   have hst2 : ∀ s ∈ st.take (st.length - 1),0 ≤ s ∧ s < ((p0.length + 1 : Nat) : Int):=fun s hs => hst1 s (List.mem_of_mem_take hs)
   have hsl' : (st.take (st.length - 1)).length ≤ 8:=by rw [List.length_take];omega
   by_cases h7 : 0 ≤ rd o (topS st)
   ·rw [if_pos h7]
    have h8:=hoo _ (rd_mem (l:=o) (i:=topS st) t0 (by omega))
    exact Ev.ite_pos h7 (Ev.ite_pos (by omega) (next _ _ _ _ ho hst2 hoo1 hsl'))
   ·rw [if_neg h7]
    exact Ev.ite_neg h7 (next _ _ _ _ ho hst2 hoo1 hsl')
  rw [if_neg h5]
  exact Ev.ite_neg h5 (next _ _ _ _ ho hst1 hoo1 hsl)
/-- What shapeOf comes to. -/
def shapeR (l : List S56) : Option (List Int × List Int × List (List Int)) :=
 if l.length ≤ 60 ∧ l.all stB = true then shR l l (List.replicate l.length (-1)) (List.replicate l.length (-1)) (List.replicate l.length []) [] 0 else none
theorem shapeOf_ev (l : List S56) (hl : l.length ≤ 1048576) (hx : ∀ x ∈ l,x.f2.length ≤ 1048576) : Ev (fun k => impl_shapeOf.f k l) (shapeR l):=by
 unfold impl_shapeOf.f shapeR
 by_cases h : l.length ≤ 60
 rotate_left
 ·rw [if_neg (fun h' => h h'.1)]
  exact Ev.ite_pos (by omega) (Ev.some rfl)
 refine Ev.ite_neg (by omega) (Ev.bind (anyStep_ev l hl hx) ?_)
 by_cases h2 : l.all stB = true
 ·rw [if_pos ⟨h,h2⟩,h2]
  refine Ev.ite_neg (by decide) ?_
  exact shapeL_ev l h hx (fun x hxm => List.all_eq_true.1 h2 x hxm) l [] _ _ _ _ rfl (by simp) (by simp) (fun y hy => by rw [List.mem_replicate] at hy;simp;omega) (by simp)
 ·rw [if_neg (fun h' => h2 h'.2)]
  rw [Bool.not_eq_true] at h2
  rw [h2]
  exact Ev.ite_pos rfl (Ev.some rfl)

theorem rd_set {l : List Int} {k : Nat} (x : Int) (h : k < l.length) (j : Nat) : rd (l.set k x) (j : Int) = if k = j then x else rd l (j : Int):=by
 unfold rd
 rw [Int.toNat_natCast,List.getD_eq_getElem?_getD,List.getD_eq_getElem?_getD,List.getElem?_set]
 by_cases hk : k = j
 ·subst hk;simp [h]
 ·rw [if_neg hk,if_neg hk]
theorem rd_rep (n : Nat) (x : Int) (j : Nat) (h : j < n) : rd (List.replicate n x) (j : Int) = x:=by
 unfold rd;rw [Int.toNat_natCast,List.getD_eq_getElem?_getD,List.getElem?_replicate,if_pos h];rfl
theorem rd_snoc (l : List Int) (x : Int) (j : Nat) : rd (l ++ [x]) (j : Int) = if j < l.length then rd l (j : Int) else if j = l.length then x else 0:=by
 unfold rd
 rw [Int.toNat_natCast,List.getD_eq_getElem?_getD,List.getD_eq_getElem?_getD]
 by_cases h : j < l.length
 ·rw [if_pos h,List.getElem?_append_left h]
 ·rw [if_neg h,List.getElem?_append_right (by omega)]
  by_cases h2 : j = l.length
  ·rw [if_pos h2,h2];simp
  ·rw [if_neg h2,List.getElem?_eq_none (by simp;omega)];rfl
/-- Those that open and have no end so far. -/
def opL (l : List S56) (e : List Int) (i : Nat) : List Int:=((List.range i).filter (fun (k : Nat) => opB (rd_T56 l (k : Int)).f0 && decide (rd e (k : Int) < 0))).map (fun (k : Nat) => (k : Int))
theorem opL_succ (l : List S56) (e : List Int) (i : Nat) : opL l e (i + 1) = opL l e i ++ (if (opB (rd_T56 l (i : Int)).f0 && decide (rd e (i : Int) < 0)) = true then [(i : Int)] else []):=by
 unfold opL
 rw [List.range_succ,List.filter_append,List.map_append]
 congr 1
 rw [List.filter_cons,List.filter_nil]
 split <;> rfl
theorem opL_congr {l : List S56} {e e' : List Int} {i : Nat} (h : ∀ k : Nat,k < i → opB (rd_T56 l (k : Int)).f0 = true → (rd e (k : Int) < 0 ↔ rd e' (k : Int) < 0)) : opL l e i = opL l e' i:=by
 unfold opL
 congr 1
 refine List.filter_congr fun k hk => ?_
 have:=h k (List.mem_range.1 hk)
 cases ho : opB (rd_T56 l (k : Int)).f0 with
 | false => rfl
 | true => rw [Bool.true_and,Bool.true_and,decide_eq_decide];exact this ho
theorem opL_mem {l : List S56} {e : List Int} {i : Nat} {s : Int} : s ∈ opL l e i ↔ ∃ k : Nat,s = k ∧ k < i ∧ opB (rd_T56 l (k : Int)).f0 = true ∧ rd e (k : Int) < 0:=by
 unfold opL
 rw [List.mem_map]
 constructor
 ·rintro ⟨k,hk,rfl⟩
  obtain ⟨h1,h2⟩:=List.mem_filter.1 hk
  rw [Bool.and_eq_true,decide_eq_true_iff] at h2
  exact ⟨k,rfl,List.mem_range.1 h1,h2.1,h2.2⟩
 ·rintro ⟨k,rfl,h1,h2,h3⟩
  exact ⟨k,List.mem_filter.2 ⟨List.mem_range.2 h1,by rw [Bool.and_eq_true,decide_eq_true_iff];exact ⟨h2,h3⟩⟩,rfl⟩
theorem opL_up (l : List S56) (e : List Int) (i : Nat) : (opL l e i).Pairwise (fun a b => a < b):=by
 unfold opL
 rw [List.pairwise_map]
 exact ((List.pairwise_lt_range (n:=i)).filter _).imp (fun h => by omega)
theorem snoc_of (S : List Int) (h : S.length ≠ 0) : S = S.take (S.length - 1) ++ [topS S]:=by
 have h1 : S.take (S.length - 1 + 1) = S.take (S.length - 1) ++ [S[S.length - 1]'(by omega)]:=List.take_succ_eq_append_getElem (by omega)
 rw [show S.length - 1 + 1 = S.length by omega,List.take_length] at h1
 have h2 : topS S = S[S.length - 1]'(by omega):=by
  unfold topS rd
  rw [Int.toNat_natCast,List.getD_eq_getElem?_getD,List.getElem?_eq_getElem (by omega)];rfl
 rw [h2];exact h1
theorem filter_last {S : List Int} (hn : S.Pairwise (fun a b => a < b)) (h : S.length ≠ 0) : S.filter (fun s => decide (s ≠ topS S)) = S.take (S.length - 1):=by
 have e:=snoc_of S h
 obtain ⟨t,ht⟩ : ∃ t,t = topS S:=⟨_,rfl⟩
 obtain ⟨S0,hS0⟩ : ∃ S0,S0 = S.take (S.length - 1):=⟨_,rfl⟩
 rw [← ht] at e ⊢
 rw [← hS0] at e ⊢
 rw [e] at hn ⊢
 rw [List.pairwise_append] at hn
 rw [List.filter_append,List.filter_eq_self.2 (fun a ha => by have:=hn.2.2 a ha t (by simp);exact decide_eq_true (by omega))]
 simp
theorem opL_pop {l : List S56} {e e' : List Int} {i : Nat} (hS : (opL l e i).length ≠ 0) (h : ∀ k : Nat,k < i → opB (rd_T56 l (k : Int)).f0 = true → (rd e' (k : Int) < 0 ↔ rd e (k : Int) < 0 ∧ (k : Int) ≠ topS (opL l e i))) : opL l e' i = (opL l e i).take ((opL l e i).length - 1):=by
 rw [← filter_last (opL_up l e i) hS]
 generalize ht : topS (opL l e i) = t at h
 unfold opL
 rw [List.filter_map,List.filter_filter]
 congr 1
 refine List.filter_congr fun k hk => ?_
 have:=h k (List.mem_range.1 hk)
 cases ho : opB (rd_T56 l (k : Int)).f0 with
 | false => simp
 | true =>
  have:=this ho
  simp only [Bool.true_and,Function.comp_apply]
  rw [Bool.eq_iff_iff,decide_eq_true_iff,Bool.and_eq_true,decide_eq_true_iff,decide_eq_true_iff,this,and_comm]
/-- How the two sides' states go together. -/
structure RelI (l : List S56) (out e o st : List Int) (i : Nat) : Prop where
 len : out.length = i
 le : i ≤ l.length
 el : e.length = l.length
 ol : o.length = l.length
 A : ∀ j : Nat,j < i → rd out (j : Int) = if 0 ≤ rd e (j : Int) then rd e (j : Int) else rd o (j : Int)
 B : ∀ j : Nat,i ≤ j → j < l.length → rd e (j : Int) = -1 ∧ rd o (j : Int) = -1
 C : ∀ j : Nat,j < l.length → -1 ≤ rd e (j : Int) ∧ rd e (j : Int) < i ∧ -1 ≤ rd o (j : Int) ∧ rd o (j : Int) < i
 D : st = opL l e i
 F : ∀ j : Nat,j < l.length → 0 ≤ rd o (j : Int) → opB (rd_T56 l (j : Int)).f0 = true ∧ (rd_T56 l (rd o (j : Int))).f0 = 18
 s8 : st.length ≤ 8
theorem RelI.start (l : List S56) : RelI l [] (List.replicate l.length (-1)) (List.replicate l.length (-1)) [] 0:=by
 refine ⟨rfl,Nat.zero_le _,by simp,by simp,fun j h => absurd h (by omega),fun j _ h => ⟨rd_rep _ _ _ h,rd_rep _ _ _ h⟩,fun j h => ?_,rfl,fun j h h0 => ?_,by simp⟩
 ·rw [rd_rep _ _ _ h];omega
 ·rw [rd_rep _ _ _ h] at h0;omega
section
variable {l : List S56} {out e o st : List Int} {i : Nat}
theorem RelI.M (h : RelI l out e o st i) (hi : i < l.length) : ∀ j : Nat,j < i + 1 → rd (out ++ [-1]) (j : Int) = if 0 ≤ rd e (j : Int) then rd e (j : Int) else rd o (j : Int):=fun j hj => by
 rw [rd_snoc,h.len]
 by_cases h1 : j < i
 ·rw [if_pos h1];exact h.A j h1
 ·obtain rfl : j = i:=by omega
  rw [if_neg h1,if_pos rfl,(h.B j (Nat.le_refl _) hi).1,if_neg (by decide),(h.B j (Nat.le_refl _) hi).2]
theorem RelI.Ml (h : RelI l out e o st i) : (out ++ [-1]).length = i + 1:=by rw [List.length_append,h.len];rfl
theorem RelI.top (h : RelI l out e o st i) (hs : st.length ≠ 0) : ∃ t : Nat,topS st = t ∧ t < i ∧ opB (rd_T56 l (t : Int)).f0 = true ∧ rd e (t : Int) < 0:=by
 have:=topS_mem hs
 have hD:=h.D
 rw [hD] at this
 obtain ⟨k,h1,h2⟩:=opL_mem.1 this
 exact ⟨k,by rw [hD];exact h1,h2⟩
theorem RelI.push (h : RelI l out e o st i) (hi : i < l.length) (ho : opB (rd_T56 l (i : Int)).f0 = true) (h8 : st.length ≠ 8) : RelI l (out ++ [-1]) e o (st ++ [(i : Int)]) (i + 1):=by
 have hB:=h.B i (Nat.le_refl _) hi
 refine ⟨h.Ml,hi,h.el,h.ol,h.M hi,fun j hj => h.B j (by omega),fun j hj => by have:=h.C j hj;omega,?_,h.F,by have:=h.s8;rw [List.length_append,List.length_singleton];omega⟩
 rw [opL_succ,← h.D,if_pos (by rw [ho,hB.1];rfl)]
theorem RelI.pass (h : RelI l out e o st i) (hi : i < l.length) (ho : ¬ opB (rd_T56 l (i : Int)).f0 = true) : RelI l (out ++ [-1]) e o st (i + 1):=by
 refine ⟨h.Ml,hi,h.el,h.ol,h.M hi,fun j hj => h.B j (by omega),fun j hj => by have:=h.C j hj;omega,?_,h.F,h.s8⟩
 rw [opL_succ,← h.D,if_neg (fun h' => ho (by rw [Bool.and_eq_true] at h';exact h'.1)),List.append_nil]
theorem RelI.else_ (h : RelI l out e o st i) (hi : i < l.length) (ho : ¬ opB (rd_T56 l (i : Int)).f0 = true) (h18 : (rd_T56 l (i : Int)).f0 = 18) {t : Nat} (ht : t < i) (hto : opB (rd_T56 l (t : Int)).f0 = true) (hte : rd e (t : Int) < 0) : RelI l ((out ++ [-1]).set t (i : Int)) e (o.set t (i : Int)) st (i + 1):=by
 have h1:=h.pass hi ho
 have sM:=fun j => rd_set (l:=out ++ [-1]) (k:=t) (i : Int) (by rw [h.Ml];omega) j
 have sO:=fun j => rd_set (l:=o) (k:=t) (i : Int) (by rw [h.ol];omega) j
 refine ⟨by rw [List.length_set];exact h1.len,h1.le,h1.el,by rw [List.length_set];exact h1.ol,fun j hj => ?_,fun j hj hjl => ?_,fun j hj => ?_,h1.D,fun j hj h0 => ?_,h1.s8⟩
 ·rw [sM,sO]
  by_cases hjt : t = j
  ·subst hjt;rw [if_pos rfl,if_pos rfl,if_neg (by omega)]
  ·rw [if_neg hjt,if_neg hjt];exact h1.A j hj
 ·rw [sO,if_neg (by omega)];exact h1.B j hj hjl
 ·have:=h1.C j hj
  rw [sO];split <;> omega
 ·rw [sO] at h0 ⊢
  by_cases hjt : t = j
  ·subst hjt;rw [if_pos rfl];exact ⟨hto,h18⟩
  ·rw [if_neg hjt] at h0 ⊢;exact h1.F j hj h0
theorem RelI.end_ (h : RelI l out e o st i) (hi : i < l.length) (h19 : (rd_T56 l (i : Int)).f0 = 19) (hs : st.length ≠ 0) {t : Nat} (htt : topS st = t) (ht : t < i) (hto : opB (rd_T56 l (t : Int)).f0 = true) (hte : rd e (t : Int) < 0) {M' e' : List Int}
  (hM : M'.length = i + 1) (hE : e'.length = l.length) (hm : ∀ j : Nat,rd M' (j : Int) = if i = j then (t : Int) else if t = j ∨ (0 ≤ rd o (t : Int) ∧ rd o (t : Int) = j) then (i : Int) else rd (out ++ [-1]) (j : Int)) (he : ∀ j : Nat,rd e' (j : Int) = if i = j then (t : Int) else if t = j ∨ (0 ≤ rd o (t : Int) ∧ rd o (t : Int) = j) then (i : Int) else rd e (j : Int)) : RelI l M' e' o (st.take (st.length - 1)) (i + 1):=by
 have ho : ¬ opB (rd_T56 l (i : Int)).f0 = true:=by rw [h19];decide
 have h1:=h.pass hi ho
 refine ⟨hM,h1.le,hE,h1.ol,fun j hj => ?_,fun j hj hjl => ?_,fun j hj => ?_,?_,h1.F,by rw [List.length_take];have:=h1.s8;omega⟩
 ·rw [hm,he]
  by_cases c1 : i = j
  ·simp only [if_pos c1];rw [if_pos (by omega)]
  by_cases c2 : t = j ∨ (0 ≤ rd o (t : Int) ∧ rd o (t : Int) = j)
  ·simp only [if_neg c1,if_pos c2];rw [if_pos (by omega)]
  simp only [if_neg c1,if_neg c2]
  exact h1.A j hj
 ·have hc:=h.C t (by omega)
  rw [he,if_neg (by omega),if_neg (by omega)]
  exact h1.B j hj hjl
 ·have:=h1.C j hj
  rw [he]
  split
  ·omega
  ·split <;> omega
 ·have hD:=h1.D
  rw [opL_succ,if_neg (fun h' => ho (by rw [Bool.and_eq_true] at h';exact h'.1)),List.append_nil] at hD
  rw [opL_succ,if_neg (fun h' => ho (by rw [Bool.and_eq_true] at h';exact h'.1)),List.append_nil,hD]
  rw [hD] at hs htt
  refine (opL_pop hs fun k hk hko => ?_).symm
  rw [htt,he,if_neg (by omega)]
  by_cases c2 : t = k
  ·rw [if_pos (.inl c2)];omega
  ·by_cases c3 : 0 ≤ rd o (t : Int) ∧ rd o (t : Int) = k
   ·have:=(h.F t (by omega) c3.1).2
    rw [c3.2] at this
    rw [this] at hko
    exact absurd hko (by decide)
   ·rw [if_neg (by omega)]
    omega
end
theorem enR_bad (l : List S56) : ∀ (q : List S56) (out st : List Int),((∃ x ∈ q,stB x = false) ∨ ¬ l.length ≤ 60) → (enR l q out st).2 = false:=by
 intro q
 induction q with
 | nil =>
  intro out st h
  rcases h with ⟨x,hx,_⟩ | h
  ·exact absurd hx (by simp)
  ·rw [enR,decide_eq_false h,Bool.and_false]
 | cons x q ih =>
  intro out st h
  rw [enR]
  by_cases h1 : stB x = true ∧ wiB x st.length = true
  rotate_left
  ·rw [if_neg h1]
  rw [if_pos h1]
  have h' : (∃ x ∈ q,stB x = false) ∨ ¬ l.length ≤ 60:=by
   rcases h with ⟨y,hy,hyb⟩ | h
   ·rcases List.mem_cons.1 hy with rfl | hy
    ·rw [h1.1] at hyb;exact absurd hyb (by decide)
    ·exact .inl ⟨y,hy,hyb⟩
   ·exact .inr h
  have ih':=fun out st => ih out st h'
  repeat' split
  all_goals first | rfl | exact ih' _ _
theorem rel (l : List S56) (hl : l.length ≤ 60) (hg : ∀ x ∈ l,stB x = true) : ∀ (q p0 : List S56) (out e o : List Int) (p : List (List Int)) (st : List Int),l = p0 ++ q → RelI l out e o st p0.length →
  (enR l q out st).2 = (shR l q e o p st p0.length).isSome ∧ ∀ r,shR l q e o p st p0.length = some r → (enR l q out st).1 = r.1:=by
 intro q
 induction q with
 | nil =>
  intro p0 out e o p st eq h
  have hn : p0.length = l.length:=by rw [eq];simp
  rw [enR,shR]
  by_cases hs : st.length = 0
  ·rw [if_pos hs,decide_eq_true hs,decide_eq_true hl]
   refine ⟨rfl,fun r hr => ?_⟩
   obtain rfl:=Option.some.inj hr
   dsimp only
   have hse : st = []:=List.eq_nil_of_length_eq_zero hs
   apply List.ext_getElem?
   intro j
   by_cases hj : j < l.length
   ·have hA:=h.A j (by omega)
    have hC:=h.C j hj
    have key : rd out (j : Int) = rd e (j : Int):=by
     by_cases h0 : 0 ≤ rd e (j : Int)
     ·rw [hA,if_pos h0]
     ·rw [hA,if_neg h0]
      by_cases h1 : 0 ≤ rd o (j : Int)
      ·have : (j : Int) ∈ opL l e p0.length:=opL_mem.2 ⟨j,rfl,by omega,(h.F j hj h1).1,by omega⟩
       rw [← h.D,hse] at this
       exact absurd this (by simp)
      ·omega
    unfold rd at key
    rw [Int.toNat_natCast,List.getD_eq_getElem?_getD,List.getD_eq_getElem?_getD] at key
    rw [List.getElem?_eq_getElem (by rw [h.len];omega),List.getElem?_eq_getElem (by rw [h.el];omega)] at key ⊢
    exact congrArg some key
   ·rw [List.getElem?_eq_none (by rw [h.len];omega),List.getElem?_eq_none (by rw [h.el];omega)]
  ·rw [if_neg hs,decide_eq_false hs]
   exact ⟨rfl,fun r hr => absurd hr (by simp)⟩
 | cons x q ih =>
  intro p0 out e o p st eq h
  have hi : p0.length < l.length:=by rw [eq];simp
  have hr : rd_T56 l (p0.length : Int) = x:=by unfold rd_T56;rw [eq];exact getD_mid _ _ _ _
  have hxl : x ∈ l:=by rw [eq];simp
  have none_ : (([] : List Int),false).2 = (none : Option (List Int × List Int × List (List Int))).isSome ∧ ∀ r,(none : Option (List Int × List Int × List (List Int))) = some r → (([] : List Int),false).1 = r.1:=⟨rfl,fun r hr => absurd hr (by simp)⟩
  have next : ∀ out' e' o' p' st',RelI l out' e' o' st' (p0.length + 1) → (enR l q out' st').2 = (shR l q e' o' p' st' (p0.length + 1)).isSome ∧ ∀ r,shR l q e' o' p' st' (p0.length + 1) = some r → (enR l q out' st').1 = r.1:=fun out' e' o' p' st' h' => by
   have:=ih (p0 ++ [x]) out' e' o' p' st' (by rw [eq];simp) (by rw [List.length_append];exact h')
   rw [List.length_append] at this
   exact this
  rw [enR,shR]
  by_cases h2 : wiB x st.length = true
  rotate_left
  ·rw [if_neg (fun h' => h2 h'.2),if_neg h2]
   exact none_
  rw [if_pos ⟨hg x hxl,h2⟩,if_pos h2]
  have h8:=h.s8
  by_cases h3 : opB x.f0 = true
  ·rw [if_pos h3,if_pos h3]
   by_cases h4 : st.length = 8
   ·rw [if_pos h4,if_pos (by omega)];exact none_
   ·rw [if_neg h4,if_neg (by omega),h.len]
    exact next _ _ _ _ _ (h.push hi (by rw [hr];exact h3) h4)
  rw [if_neg h3,if_neg h3]
  by_cases h4 : x.f0 = 18
  ·rw [if_pos h4,if_pos h4]
   by_cases h5 : st.length = 0
   ·rw [if_pos h5,if_pos h5];exact none_
   rw [if_neg h5,if_neg h5]
   obtain ⟨t,htt,ht,hto,hte⟩:=h.top h5
   rw [htt,Int.toNat_natCast]
   by_cases h6 : (rd_T56 l (t : Int)).f0 = 17
   rotate_left
   ·rw [if_neg h6,if_neg h6];exact none_
   rw [if_pos h6,if_pos h6]
   have hMt : rd (out ++ [-1]) (t : Int) = rd o (t : Int):=by rw [h.M hi t (by omega),if_neg (by omega)]
   by_cases h7 : 0 ≤ rd o (t : Int)
   ·rw [if_pos h7,if_pos (by omega)];exact none_
   ·rw [if_neg h7,if_neg (by omega),h.len]
    exact next _ _ _ _ _ (h.else_ hi (by rw [hr];exact h3) (by rw [hr];exact h4) ht hto hte)
  rw [if_neg h4,if_neg h4]
  by_cases h5 : x.f0 = 19
  ·rw [if_pos h5,if_pos h5]
   by_cases h6 : st.length = 0
   ·rw [if_pos h6,if_pos h6];exact none_
   rw [if_neg h6,if_neg h6]
   obtain ⟨t,htt,ht,hto,hte⟩:=h.top h6
   have hMt : rd (out ++ [-1]) (topS st) = rd o (topS st):=by rw [htt,h.M hi t (by omega),if_neg (by omega)]
   have hc:=h.C t (by omega)
   have hMl:=h.Ml
   have hel:=h.el
   rw [hMt]
   by_cases h7 : 0 ≤ rd o (topS st)
   ·rw [if_pos h7,if_pos (by omega),h.len]
    rw [htt] at h7
    refine next _ _ _ _ _ (h.end_ hi (by rw [hr];exact h5) h6 htt ht hto hte (by simp only [List.length_set];exact hMl) (by simp only [List.length_set];exact hel) (fun j => ?_) (fun j => ?_))
    ·rw [htt,Int.toNat_natCast,rd_set _ (by simp only [List.length_set];omega),rd_set _ (by simp only [List.length_set];omega),rd_set _ (by omega)]
     by_cases c1 : p0.length = j
     ·rw [if_pos c1,if_pos c1]
     rw [if_neg c1,if_neg c1]
     by_cases c2 : t = j
     ·rw [if_pos c2,if_pos (.inl c2)]
     rw [if_neg c2]
     by_cases c3 : (rd o (t : Int)).toNat = j
     ·rw [if_pos c3,if_pos (by omega)]
     ·rw [if_neg c3,if_neg (by omega)]
    ·rw [htt,Int.toNat_natCast,rd_set _ (by simp only [List.length_set];omega),rd_set _ (by simp only [List.length_set];omega),rd_set _ (by omega)]
     by_cases c3 : (rd o (t : Int)).toNat = j
     ·rw [if_pos c3,if_neg (by omega),if_pos (by omega)]
     rw [if_neg c3]
     by_cases c2 : t = j
     ·rw [if_pos c2,if_neg (by omega),if_pos (.inl c2)]
     rw [if_neg c2]
     by_cases c1 : p0.length = j
     ·rw [if_pos c1,if_pos c1]
     ·rw [if_neg c1,if_neg c1,if_neg (by omega)]
   ·rw [if_neg h7,if_neg (by omega),h.len]
    rw [htt] at h7
    refine next _ _ _ _ _ (h.end_ hi (by rw [hr];exact h5) h6 htt ht hto hte (by simp only [List.length_set];exact hMl) (by simp only [List.length_set];exact hel) (fun j => ?_) (fun j => ?_))
    ·rw [htt,Int.toNat_natCast,rd_set _ (by simp only [List.length_set];omega),rd_set _ (by omega)]
     by_cases c1 : p0.length = j
     ·rw [if_pos c1,if_pos c1]
     rw [if_neg c1,if_neg c1]
     by_cases c2 : t = j
     ·rw [if_pos c2,if_pos (.inl c2)]
     ·rw [if_neg c2,if_neg (by omega)]
    ·rw [htt,Int.toNat_natCast,rd_set _ (by simp only [List.length_set];omega),rd_set _ (by omega)]
     by_cases c2 : t = j
     ·rw [if_pos c2,if_neg (by omega),if_pos (.inl c2)]
     rw [if_neg c2]
     by_cases c1 : p0.length = j
     ·rw [if_pos c1,if_pos c1]
     ·rw [if_neg c1,if_neg c1,if_neg (by omega)]
  rw [if_neg h5,if_neg h5]
  exact next _ _ _ _ _ (h.pass hi (by rw [hr];exact h3))
theorem ends_shape (l : List S56) : (enR l l [] []).2 = (shapeR l).isSome ∧ ∀ r,shapeR l = some r → (enR l l [] []).1 = r.1:=by
 unfold shapeR
 by_cases h : l.length ≤ 60 ∧ l.all stB = true
 ·rw [if_pos h]
  exact rel l h.1 (fun x hx => List.all_eq_true.1 h.2 x hx) l [] _ _ _ _ _ rfl (RelI.start l)
 ·rw [if_neg h]
  refine ⟨?_,fun r hr => absurd hr (by simp)⟩
  refine enR_bad l l [] [] ?_
  by_cases h1 : l.length ≤ 60
  ·by_cases h2 : ∃ x ∈ l,stB x = false
   ·exact .inl h2
   ·refine absurd ⟨h1,List.all_eq_true.2 fun x hx => ?_⟩ h
    cases hb : stB x with
    | true => rfl
    | false => exact absurd ⟨x,hx,hb⟩ h2
  ·exact .inr h1

/-- Of a whole shape: each place's open ones are those that open ahead of it and end not ahead of it. -/
def stkF (l : List S56) (e : List Int) (j : Nat) : List Int:=((List.range j).filter (fun (k : Nat) => opB (rd_T56 l (k : Int)).f0 && decide ((j : Int) ≤ rd e (k : Int)))).map (fun (k : Nat) => (k : Int))
structure Fin (l : List S56) (e : List Int) (p : List (List Int)) (st : List Int) (q : List S56) (i : Nat) (r : List Int × List Int × List (List Int)) : Prop where
 el : r.1.length = l.length
 pl : r.2.2.length = l.length
 keep : ∀ k : Nat,k < i → opB (rd_T56 l (k : Int)).f0 = true → (0 ≤ rd e (k : Int) → rd r.1 (k : Int) = rd e (k : Int)) ∧ (rd e (k : Int) < 0 → (i : Int) ≤ rd r.1 (k : Int))
 old : ∀ j : Nat,j < i → r.2.2.getD j [] = p.getD j []
 new : ∀ j : Nat,i ≤ j → j < l.length → r.2.2.getD j [] = stkF l r.1 j
 lo : ∀ j : Nat,j < l.length → -1 ≤ rd r.1 (j : Int) ∧ rd r.1 (j : Int) < l.length
theorem getD_set {α : Type} (p : List α) (i j : Nat) (y d : α) (h : i < p.length) : (p.set i y).getD j d = if i = j then y else p.getD j d:=by
 rw [List.getD_eq_getElem?_getD,List.getD_eq_getElem?_getD,List.getElem?_set]
 by_cases hk : i = j
 ·subst hk;simp [h]
 ·rw [if_neg hk,if_neg hk]
theorem stkF_eq {l : List S56} {e e' : List Int} {i : Nat} (hi : ∀ k : Nat,k < i → rd e (k : Int) < i) (h : ∀ k : Nat,k < i → opB (rd_T56 l (k : Int)).f0 = true → (0 ≤ rd e (k : Int) → rd e' (k : Int) = rd e (k : Int)) ∧ (rd e (k : Int) < 0 → (i : Int) ≤ rd e' (k : Int))) : opL l e i = stkF l e' i:=by
 unfold opL stkF
 congr 1
 refine List.filter_congr fun k hk => ?_
 have h1:=h k (List.mem_range.1 hk)
 have h2:=hi k (List.mem_range.1 hk)
 cases ho : opB (rd_T56 l (k : Int)).f0 with
 | false => rfl
 | true =>
  rw [Bool.true_and,Bool.true_and,decide_eq_decide]
  obtain ⟨h3,h4⟩:=h1 ho
  omega
theorem fin (l : List S56) : ∀ (q p0 : List S56) (out e o : List Int) (p : List (List Int)) (st : List Int) (r : List Int × List Int × List (List Int)),l = p0 ++ q → RelI l out e o st p0.length → p.length = l.length → shR l q e o p st p0.length = some r → Fin l e p st q p0.length r:=by
 intro q
 induction q with
 | nil =>
  intro p0 out e o p st r eq h hpl hr
  have hn : p0.length = l.length:=by rw [eq];simp
  rw [shR] at hr
  by_cases hs : st.length = 0
  rotate_left
  ·rw [if_neg hs] at hr;exact absurd hr (by simp)
  rw [if_pos hs] at hr
  obtain rfl:=Option.some.inj hr
  have hse : st = []:=List.eq_nil_of_length_eq_zero hs
  refine ⟨h.el,hpl,fun k hk ho => ⟨fun _ => rfl,fun hlt => ?_⟩,fun j _ => rfl,fun j h1 h2 => absurd h2 (by omega),fun j hj => by have:=h.C j hj;dsimp only;omega⟩
  have : (k : Int) ∈ opL l e p0.length:=opL_mem.2 ⟨k,rfl,hk,ho,hlt⟩
  rw [← h.D,hse] at this
  exact absurd this (by simp)
 | cons x q ih =>
  intro p0 out e o p st r eq h hpl hr
  have hi : p0.length < l.length:=by rw [eq];simp
  have hrd : rd_T56 l (p0.length : Int) = x:=by unfold rd_T56;rw [eq];exact getD_mid _ _ _ _
  have next : ∀ out' e' o' st',RelI l out' e' o' st' (p0.length + 1) → shR l q e' o' (p.set p0.length st) st' (p0.length + 1) = some r →
    (∀ k : Nat,k < p0.length → opB (rd_T56 l (k : Int)).f0 = true → rd e' (k : Int) = rd e (k : Int) ∨ (rd e (k : Int) < 0 ∧ rd e' (k : Int) = p0.length)) → Fin l e p st (x :: q) p0.length r:=fun out' e' o' st' h' hr' hk => by
   have hF:=ih (p0 ++ [x]) out' e' o' (p.set p0.length st) st' r (by rw [eq];simp) (by rw [List.length_append];exact h') (by rw [List.length_set];exact hpl) (by rw [List.length_append];exact hr')
   rw [List.length_append] at hF
   have keep : ∀ k : Nat,k < p0.length → opB (rd_T56 l (k : Int)).f0 = true → (0 ≤ rd e (k : Int) → rd r.1 (k : Int) = rd e (k : Int)) ∧ (rd e (k : Int) < 0 → (p0.length : Int) ≤ rd r.1 (k : Int)):=fun k hk1 ho => by
    obtain ⟨f1,f2⟩:=hF.keep k (by simp;omega) ho
    have f2':=fun hh => f2 hh
    simp only [List.length_singleton] at f2'
    rcases hk k hk1 ho with c | ⟨c1,c2⟩
    ·rw [c] at f1 f2'
     exact ⟨f1,fun hh => by have:=f2' hh;omega⟩
    ·exact ⟨fun hh => by omega,fun _ => by rw [f1 (by omega)];omega⟩
   refine ⟨hF.el,hF.pl,keep,fun j hj => ?_,fun j h1 h2 => ?_,hF.lo⟩
   ·rw [hF.old j (by simp;omega),getD_set _ _ _ _ _ (by omega),if_neg (by omega)]
   ·by_cases hj : j = p0.length
    ·subst hj
     rw [hF.old p0.length (by simp),getD_set _ _ _ _ _ (by omega),if_pos rfl,h.D]
     exact stkF_eq (fun k hk1 => (h.C k (by omega)).2.1) keep
    ·exact hF.new j (by simp;omega) h2
  rw [shR] at hr
  by_cases h2 : wiB x st.length = true
  rotate_left
  ·rw [if_neg h2] at hr;exact absurd hr (by simp)
  rw [if_pos h2] at hr
  by_cases h3 : opB x.f0 = true
  ·rw [if_pos h3] at hr
   by_cases h4 : st.length + 1 > 8
   ·rw [if_pos h4] at hr;exact absurd hr (by simp)
   rw [if_neg h4] at hr
   exact next _ _ _ _ (h.push hi (by rw [hrd];exact h3) (by omega)) hr (fun k _ _ => .inl rfl)
  rw [if_neg h3] at hr
  by_cases h4 : x.f0 = 18
  ·rw [if_pos h4] at hr
   by_cases h5 : st.length = 0
   ·rw [if_pos h5] at hr;exact absurd hr (by simp)
   rw [if_neg h5] at hr
   obtain ⟨t,htt,ht,hto,hte⟩:=h.top h5
   rw [htt,Int.toNat_natCast] at hr
   by_cases h6 : (rd_T56 l (t : Int)).f0 = 17
   rotate_left
   ·rw [if_neg h6] at hr;exact absurd hr (by simp)
   rw [if_pos h6] at hr
   by_cases h7 : 0 ≤ rd o (t : Int)
   ·rw [if_pos h7] at hr;exact absurd hr (by simp)
   rw [if_neg h7] at hr
   exact next _ _ _ _ (h.else_ hi (by rw [hrd];exact h3) (by rw [hrd];exact h4) ht hto hte) hr (fun k _ _ => .inl rfl)
  rw [if_neg h4] at hr
  by_cases h5 : x.f0 = 19
  rotate_left
  ·rw [if_neg h5] at hr
   exact next _ _ _ _ (h.pass hi (by rw [hrd];exact h3)) hr (fun k _ _ => .inl rfl)
  rw [if_pos h5] at hr
  by_cases h6 : st.length = 0
  ·rw [if_pos h6] at hr;exact absurd hr (by simp)
  rw [if_neg h6] at hr
  obtain ⟨t,htt,ht,hto,hte⟩:=h.top h6
  have hc:=h.C t (by omega)
  have hMl:=h.Ml
  have hel:=h.el
  rw [htt,Int.toNat_natCast] at hr
  have hE : ∃ e',e'.length = l.length ∧ shR l q e' o (p.set p0.length st) (st.take (st.length - 1)) (p0.length + 1) = some r ∧ ∀ j : Nat,rd e' (j : Int) = if p0.length = j then (t : Int) else if t = j ∨ (0 ≤ rd o (t : Int) ∧ rd o (t : Int) = j) then (p0.length : Int) else rd e (j : Int):=by
   by_cases h7 : 0 ≤ rd o (t : Int)
   ·rw [if_pos h7] at hr
    refine ⟨_,?_,hr,fun j => ?_⟩
    ·simp only [List.length_set];exact hel
    ·rw [rd_set _ (by simp only [List.length_set];omega),rd_set _ (by simp only [List.length_set];omega),rd_set _ (by omega)]
     by_cases c3 : (rd o (t : Int)).toNat = j
     ·rw [if_pos c3,if_neg (by omega),if_pos (by omega)]
     rw [if_neg c3]
     by_cases c2 : t = j
     ·rw [if_pos c2,if_neg (by omega),if_pos (.inl c2)]
     rw [if_neg c2]
     by_cases c1 : p0.length = j
     ·rw [if_pos c1,if_pos c1]
     ·rw [if_neg c1,if_neg c1,if_neg (by omega)]
   ·rw [if_neg h7] at hr
    refine ⟨_,?_,hr,fun j => ?_⟩
    ·simp only [List.length_set];exact hel
    ·rw [rd_set _ (by simp only [List.length_set];omega),rd_set _ (by omega)]
     by_cases c2 : t = j
     ·rw [if_pos c2,if_neg (by omega),if_pos (.inl c2)]
     rw [if_neg c2]
     by_cases c1 : p0.length = j
     ·rw [if_pos c1,if_pos c1]
     ·rw [if_neg c1,if_neg c1,if_neg (by omega)]
  obtain ⟨e',hel',hr',he'⟩:=hE
  have hMM : ∃ M' : List Int,M'.length = p0.length + 1 ∧ ∀ j : Nat,rd M' (j : Int) = if p0.length = j then (t : Int) else if t = j ∨ (0 ≤ rd o (t : Int) ∧ rd o (t : Int) = j) then (p0.length : Int) else rd (out ++ [-1]) (j : Int):=by
   by_cases h7 : 0 ≤ rd o (t : Int)
   ·refine ⟨((((out ++ [-1]).set (rd o (t : Int)).toNat (p0.length : Int)).set t (p0.length : Int)).set p0.length (t : Int)),by simp only [List.length_set];exact hMl,fun j => ?_⟩
    rw [rd_set _ (by simp only [List.length_set];omega),rd_set _ (by simp only [List.length_set];omega),rd_set _ (by omega)]
    by_cases c1 : p0.length = j
    ·rw [if_pos c1,if_pos c1]
    rw [if_neg c1,if_neg c1]
    by_cases c2 : t = j
    ·rw [if_pos c2,if_pos (.inl c2)]
    rw [if_neg c2]
    by_cases c3 : (rd o (t : Int)).toNat = j
    ·rw [if_pos c3,if_pos (by omega)]
    ·rw [if_neg c3,if_neg (by omega)]
   ·refine ⟨(((out ++ [-1]).set t (p0.length : Int)).set p0.length (t : Int)),by simp only [List.length_set];exact hMl,fun j => ?_⟩
    rw [rd_set _ (by simp only [List.length_set];omega),rd_set _ (by omega)]
    by_cases c1 : p0.length = j
    ·rw [if_pos c1,if_pos c1]
    rw [if_neg c1,if_neg c1]
    by_cases c2 : t = j
    ·rw [if_pos c2,if_pos (.inl c2)]
    ·rw [if_neg c2,if_neg (by omega)]
  obtain ⟨M',hM1,hM2⟩:=hMM
  refine next M' e' o _ (h.end_ hi (by rw [hrd];exact h5) h6 htt ht hto hte hM1 hel' hM2 he') hr' fun k hk1 ho => ?_
  rw [he',if_neg (by omega)]
  by_cases c2 : t = k
  ·rw [if_pos (.inl c2)];subst c2;exact .inr ⟨hte,rfl⟩
  ·by_cases c3 : 0 ≤ rd o (t : Int) ∧ rd o (t : Int) = k
   ·have:=(h.F t (by omega) c3.1).2
    rw [c3.2] at this
    rw [this] at ho
    exact absurd ho (by decide)
   ·rw [if_neg (by omega)];exact .inl rfl
theorem shapeR_fin {l : List S56} {r : List Int × List Int × List (List Int)} (h : shapeR l = some r) : l.length ≤ 60 ∧ (∀ x ∈ l,stB x = true) ∧ Fin l (List.replicate l.length (-1)) (List.replicate l.length []) [] l 0 r:=by
 unfold shapeR at h
 by_cases hc : l.length ≤ 60 ∧ l.all stB = true
 ·rw [if_pos hc] at h
  exact ⟨hc.1,fun x hx => List.all_eq_true.1 hc.2 x hx,fin l l [] _ _ _ _ _ r rfl (RelI.start l) (by simp) h⟩
 ·rw [if_neg hc] at h;exact absurd h (by simp)

theorem isTwo_eq2 (a : Int) : impl_isTwo.f a = some (decide (4 ≤ a ∧ a ≤ 9)):=by
 unfold impl_isTwo.f;rw [within_eq];rfl
/-- How many words an op takes off, and puts on. -/
def needsP (op : Int) : Int × Int :=
 if op = 1 ∨ op = 2 then (0,1)
 else if 4 ≤ op ∧ op ≤ 9 then (2,1)
 else if op = 10 then (1,1)
 else if op = 11 then (2,0)
 else if op = 3 ∨ op = 12 ∨ op = 13 ∨ op = 17 ∨ op = 21 ∨ op = 22 then (1,0)
 else (0,0)
theorem l4Needs_ev (op : Int) : Ev (fun k => spec_l4Needs.f k op) (needsP op):=by
 have j : ∀ t : Bool,t = decide (op = 1 ∨ op = 2) → Ev (fun k => spec_l4Needs.j0 k op t) (needsP op):=by
  intro t ht
  refine Ev.succ ?_
  simp only [spec_l4Needs.j0,l1In_eq,Option.bind_some]
  subst ht
  unfold needsP
  by_cases h1 : op = 1 ∨ op = 2
  ·exact Ev.ite_pos (by simpa using h1) (Ev.some (by rw [if_pos h1]))
  ·refine Ev.ite_neg (by simpa using h1) ?_
   rw [if_neg h1]
   by_cases h2 : 4 ≤ op ∧ op ≤ 9
   ·exact Ev.ite_pos (by simpa using h2) (Ev.some (by rw [if_pos h2]))
   ·refine Ev.ite_neg (by simpa using h2) ?_
    rw [if_neg h2]
    refine Ev.const ?_
    (repeat' split) <;> first | rfl | (exfalso;omega)
 unfold spec_l4Needs.f
 by_cases h1 : op = 1
 ·exact Ev.ite_pos h1 (j _ (by simp [h1]))
 ·exact Ev.ite_neg h1 (j _ (by simp [h1,beq_dec]))
theorem needsOf_ev (op : Int) : Ev (fun k => impl_needsOf.f k op) (needsP op):=by
 have j1 : ∀ t : Bool,¬ (op = 1 ∨ op = 2) → t = decide (op = 3 ∨ op = 12 ∨ op = 13 ∨ op = 17 ∨ op = 21 ∨ op = 22) → Ev (fun k => impl_needsOf.j1 k op t) (needsP op):=by
  intro t h1 ht
  refine Ev.succ ?_
  simp only [impl_needsOf.j1,isTwo_eq2,Option.bind_some]
  subst ht
  unfold needsP
  rw [if_neg h1]
  by_cases h2 : op = 3 ∨ op = 12 ∨ op = 13 ∨ op = 17 ∨ op = 21 ∨ op = 22
  ·refine Ev.ite_pos (by simpa using h2) (Ev.some ?_)
   rw [if_neg (by omega),if_neg (by omega),if_neg (by omega),if_pos h2]
  ·refine Ev.ite_neg (by simpa using h2) ?_
   by_cases h3 : 4 ≤ op ∧ op ≤ 9
   ·exact Ev.ite_pos (by simpa using h3) (Ev.some (by rw [if_pos h3]))
   ·refine Ev.ite_neg (by simpa using h3) ?_
    rw [if_neg h3]
    refine Ev.const ?_
    (repeat' split) <;> first | rfl | (exfalso;omega)
 have j0 : ∀ t : Bool,t = decide (op = 1 ∨ op = 2) → Ev (fun k => impl_needsOf.j0 k op t) (needsP op):=by
  intro t ht
  refine Ev.succ ?_
  simp only [impl_needsOf.j0]
  subst ht
  by_cases h1 : op = 1 ∨ op = 2
  ·exact Ev.ite_pos (by simpa using h1) (Ev.some (by unfold needsP;rw [if_pos h1]))
  ·refine Ev.ite_neg (by simpa using h1) ?_
   by_cases a3 : op = 3
   ·exact Ev.ite_pos a3 (j1 _ h1 (by simp [a3]))
   ·refine Ev.ite_neg a3 ?_
    by_cases a12 : op = 12
    ·exact Ev.ite_pos a12 (j1 _ h1 (by simp [a12]))
    ·refine Ev.ite_neg a12 ?_
     by_cases a13 : op = 13
     ·exact Ev.ite_pos a13 (j1 _ h1 (by simp [a13]))
     ·refine Ev.ite_neg a13 ?_
      by_cases a17 : op = 17
      ·exact Ev.ite_pos a17 (j1 _ h1 (by simp [a17]))
      ·refine Ev.ite_neg a17 ?_
       by_cases a21 : op = 21
       ·exact Ev.ite_pos a21 (j1 _ h1 (by simp [a21]))
       ·exact Ev.ite_neg a21 (j1 _ h1 (by simp [a3,a12,a13,a17,a21,beq_dec]))
 unfold impl_needsOf.f
 by_cases h1 : op = 1
 ·exact Ev.ite_pos h1 (j0 _ (by simp [h1]))
 ·exact Ev.ite_neg h1 (j0 _ (by simp [h1,beq_dec]))

/-- One step of a shape that is made: what is left, and which are open. -/
theorem shR_next {l : List S56} {x : S56} {q : List S56} {e o : List Int} {p : List (List Int)} {st : List Int} {i : Nat} {r : List Int × List Int × List (List Int)} (hr : shR l (x :: q) e o p st i = some r) :
  ∃ e' o' st',shR l q e' o' (p.set i st) st' (i + 1) = some r ∧ (opB x.f0 = true → st' = st ++ [(i : Int)] ∧ st.length + 1 ≤ 8) ∧ (opB x.f0 ≠ true → (x.f0 = 18 ∨ x.f0 = 19 → st.length ≠ 0) ∧ (x.f0 = 19 → st' = st.take (st.length - 1)) ∧ (x.f0 ≠ 19 → st' = st)):=by
 rw [shR] at hr
 by_cases h2 : wiB x st.length = true
 rotate_left
 ·rw [if_neg h2] at hr;exact absurd hr (by simp)
 rw [if_pos h2] at hr
 by_cases h3 : opB x.f0 = true
 ·rw [if_pos h3] at hr
  by_cases h4 : st.length + 1 > 8
  ·rw [if_pos h4] at hr;exact absurd hr (by simp)
  rw [if_neg h4] at hr
  exact ⟨_,_,_,hr,fun _ => ⟨rfl,by omega⟩,fun h => absurd h3 h⟩
 rw [if_neg h3] at hr
 by_cases h4 : x.f0 = 18
 ·rw [if_pos h4] at hr
  by_cases h5 : st.length = 0
  ·rw [if_pos h5] at hr;exact absurd hr (by simp)
  rw [if_neg h5] at hr
  split at hr
  ·split at hr
   ·exact absurd hr (by simp)
   ·exact ⟨_,_,_,hr,fun h => absurd h h3,fun _ => ⟨fun _ => h5,fun h => by omega,fun _ => rfl⟩⟩
  ·exact absurd hr (by simp)
 rw [if_neg h4] at hr
 by_cases h5 : x.f0 = 19
 ·rw [if_pos h5] at hr
  by_cases h6 : st.length = 0
  ·rw [if_pos h6] at hr;exact absurd hr (by simp)
  rw [if_neg h6] at hr
  split at hr
  ·exact ⟨_,_,_,hr,fun h => absurd h h3,fun _ => ⟨fun _ => h6,fun _ => rfl,fun h => absurd h5 h⟩⟩
  ·exact ⟨_,_,_,hr,fun h => absurd h h3,fun _ => ⟨fun _ => h6,fun _ => rfl,fun h => absurd h5 h⟩⟩
 rw [if_neg h5] at hr
 exact ⟨_,_,_,hr,fun h => absurd h h3,fun _ => ⟨fun h => by omega,fun h => absurd h h5,fun _ => rfl⟩⟩
theorem shR_keep {l : List S56} {r : List Int × List Int × List (List Int)} : ∀ (q : List S56) (e o : List Int) (p : List (List Int)) (st : List Int) (i : Nat),shR l q e o p st i = some r → ∀ j : Nat,j < i → r.2.2.getD j [] = p.getD j []:=by
 intro q
 induction q with
 | nil =>
  intro e o p st i hr j hj
  rw [shR] at hr
  split at hr
  ·obtain rfl:=Option.some.inj hr;rfl
  ·exact absurd hr (by simp)
 | cons x q ih =>
  intro e o p st i hr j hj
  obtain ⟨e',o',st',hr',_,_⟩:=shR_next hr
  rw [ih _ _ _ _ _ hr' j (by omega),List.getD_eq_getElem?_getD,List.getD_eq_getElem?_getD,List.getElem?_set,if_neg (by omega)]
/-- What is dead: what is open keeps it, and hands it down. -/
structure DRel (st : List Int) (ds deads : List Bool) (d : Bool) : Prop where
 dk : deads = st.map (fun k => rdOf false ds k)
 sl : ∀ k ∈ st,0 ≤ k ∧ k < ds.length
 mo : (deads ++ [d]).Pairwise (fun a b => a = true → b = true)
theorem rdOf_old (ds : List Bool) (d : Bool) (k : Int) (h0 : 0 ≤ k) (h : k < ds.length) : rdOf false (ds ++ [d]) k = rdOf false ds k:=by
 unfold rdOf
 rw [List.getD_eq_getElem?_getD,List.getD_eq_getElem?_getD,List.getElem?_append_left (by omega)]
theorem rdOf_new (ds : List Bool) (d : Bool) : rdOf false (ds ++ [d]) (ds.length : Int) = d:=by
 unfold rdOf
 rw [List.getD_eq_getElem?_getD,Int.toNat_natCast,List.getElem?_append_right (Nat.le_refl _)]
 simp
section
variable {st : List Int} {ds deads : List Bool} {d : Bool}
theorem DRel.dk' (h : DRel st ds deads d) : deads = st.map (fun k => rdOf false (ds ++ [d]) k):=by
 rw [h.dk]
 exact List.map_congr_left fun k hk => by have:=h.sl k hk;exact (rdOf_old _ _ _ this.1 this.2).symm
theorem DRel.sl' (h : DRel st ds deads d) : ∀ k ∈ st,0 ≤ k ∧ k < ((ds ++ [d]).length : Int):=fun k hk => by
 have:=h.sl k hk;rw [List.length_append,List.length_singleton];omega
theorem DRel.pass (h : DRel st ds deads d) (d' : Bool) (hd : d = true → d' = true) : DRel st (ds ++ [d]) deads d':=by
 refine ⟨h.dk',h.sl',?_⟩
 have hm:=List.pairwise_append.1 h.mo
 exact List.pairwise_append.2 ⟨hm.1,by simp,fun a ha b hb hab => by
  simp only [List.mem_singleton] at hb
  rw [hb];exact hd (hm.2.2 a ha d (by simp) hab)⟩
theorem DRel.push (h : DRel st ds deads d) : DRel (st ++ [(ds.length : Int)]) (ds ++ [d]) (deads ++ [d]) d:=by
 refine ⟨?_,fun k hk => ?_,?_⟩
 ·rw [List.map_append,← h.dk',List.map_singleton,rdOf_new]
 ·rcases List.mem_append.1 hk with hk | hk
  ·exact h.sl' k hk
  ·simp only [List.mem_singleton] at hk;rw [List.length_append,List.length_singleton];omega
 ·exact List.pairwise_append.2 ⟨h.mo,by simp,fun a ha b hb hab => by
   simp only [List.mem_singleton] at hb
   rw [hb]
   rcases List.mem_append.1 ha with ha | ha
   ·exact (List.pairwise_append.1 h.mo).2.2 a ha d (by simp) hab
   ·simp only [List.mem_singleton] at ha;rw [← ha];exact hab⟩
theorem DRel.els {deads0 : List Bool} {dl : Bool} (h : DRel st ds deads d) (e : deads = deads0 ++ [dl]) : DRel st (ds ++ [d]) deads dl:=by
 refine ⟨h.dk',h.sl',?_⟩
 have hm:=(List.pairwise_append.1 h.mo).1
 exact List.pairwise_append.2 ⟨hm,by simp,fun a ha b hb hab => by
  simp only [List.mem_singleton] at hb
  rw [hb]
  rw [e] at ha hm
  rcases List.mem_append.1 ha with ha | ha
  ·exact (List.pairwise_append.1 hm).2.2 a ha dl (by simp) hab
  ·simp only [List.mem_singleton] at ha;rw [← ha];exact hab⟩
theorem DRel.end_ {deads0 : List Bool} {dl : Bool} (h : DRel st ds deads d) (e : deads = deads0 ++ [dl]) : DRel (st.take (st.length - 1)) (ds ++ [d]) deads0 dl:=by
 refine ⟨?_,fun k hk => h.sl' k (List.mem_of_mem_take hk),by rw [← e];exact (List.pairwise_append.1 h.mo).1⟩
 rw [List.map_take,← h.dk',e,show st.length - 1 = deads0.length from by
  have:=congrArg List.length h.dk'
  rw [e] at this;simp at this;omega]
 simp
end
theorem rdOp_last (a : List OpS) (y : OpS) : rdOp (a ++ [y]) (((a ++ [y]).length : Int) - 1) = y:=by
 unfold rdOp
 rw [List.length_append,List.length_singleton,show (((a.length + 1 : Nat) : Int) - 1).toNat = a.length by omega,List.getD_eq_getElem?_getD]
 simp
theorem rd_last (a : List Int) (y : Int) : rd (a ++ [y]) (a.length : Int) = y:=by
 rw [rd_snoc,if_neg (by omega),if_pos rfl]
theorem needsP_range (op : Int) : 0 ≤ (needsP op).1 ∧ (needsP op).1 ≤ 2 ∧ 0 ≤ (needsP op).2 ∧ (needsP op).2 ≤ 1:=by
 unfold needsP
 (repeat' split) <;> exact ⟨by decide,by decide,by decide,by decide⟩
theorem snocs_of {α : Type} (S : List α) (h : S.length ≠ 0) : ∃ a y,S = a ++ [y]:=by
 refine ⟨S.take (S.length - 1),S[S.length - 1]'(by omega),?_⟩
 have h1 : S.take (S.length - 1 + 1) = S.take (S.length - 1) ++ [S[S.length - 1]'(by omega)]:=List.take_succ_eq_append_getElem (by omega)
 rw [show S.length - 1 + 1 = S.length by omega,List.take_length] at h1
 exact h1
/-- How the two sides' walks go together. -/
structure WRel (h b : Int) (d : Bool) (bases : List Int) (deads : List Bool) (op : List OpS) (n : Nat) : Prop where
 it : ∃ (op0 : List OpS) (dl : Bool),op = op0 ++ [⟨b,dl⟩] ∧ op0.map OpS.f0 = bases ∧ op0.map OpS.f1 ++ [dl] = false :: deads
 up : (bases ++ [b]).Pairwise (fun x y => x ≤ y)
 lo : ∀ y ∈ bases ++ [b],0 ≤ y
 bh : b ≤ h
 h4 : h ≤ 4
 bn : bases.length = n
 n8 : n ≤ 8
abbrev WS:=List Int × List Bool × Int × Int
abbrev WI:=List Int × List Bool × List Int × Int × Int
/-- What the two sides come to. -/
def WOut (n : Nat) (r : WI) (s : WS) : Prop:=r.1 = s.1 ∧ r.2.2.2.1 = s.2.2.1 ∧ (s.2.2.1 ≠ 0 → r.2.2.2.2 = s.2.2.2) ∧ (s.2.2.1 = 0 → r.2.2.2.2 = 0 ∧ ∃ d,r.2.1 = s.2.1 ++ [d]) ∧ (∀ y ∈ r.1,0 ≤ y) ∧ r.1.length ≤ 100 ∧ r.1.length ≠ 0 ∧ r.2.1.length ≤ 100 ∧ (s.2.2.1 = 0 → s.2.1.length = n)
/-- What is dead in what is open is dead in the end. -/
def DOut (l : List S56) (rr : List Int × List Int × List (List Int)) (ds : List Bool) (s : WS) : Prop:=s.2.2.1 = 0 → (∀ j : Nat,j < ds.length → rdOf false s.2.1 (j : Int) = rdOf false ds (j : Int)) ∧ ∀ j : Nat,ds.length ≤ j → j < l.length → ∀ k ∈ rr.2.2.getD j [],rdOf false s.2.1 k = true → rdOf false s.2.1 (j : Int) = true
theorem walk_both (l : List S56) (hl : l.length ≤ 60) : ∀ (q p0 : List S56) (e o : List Int) (p : List (List Int)) (st : List Int) (rr : List Int × List Int × List (List Int)) (h b at0 : Int) (d : Bool) (bases : List Int) (deads : List Bool) (op : List OpS) (hs bs : List Int) (ds : List Bool),
  l = p0 ++ q → shR l q e o p st p0.length = some rr → WRel h b d bases deads op st.length → DRel st ds deads d → p.length = l.length → hs.length = p0.length → ds.length = p0.length → bs.length = p0.length → (∀ y ∈ hs,0 ≤ y) →
  ∃ (r : WI) (s : WS),Ev (fun k => spec_l4Walk.l0 k l h b d bases deads l (l.length : Int) (p0.length : Int) hs ds 0 at0) s ∧ Ev (fun k => impl_walkOf.l0 k l hs ds bs h d op p0.length) r ∧ WOut l.length r s ∧ DOut l rr ds s:=by
 intro q
 induction q with
 | nil =>
  intro p0 e o p st rr h b at0 d bases deads op hs bs ds eq hr H HD hpl h1 h2 h3 h4
  have hn : p0.length = l.length:=by rw [eq];simp
  have hb0 : 0 ≤ b:=H.lo b (by simp)
  have hbh:=H.bh
  have hall : ∀ y ∈ hs ++ [h],0 ≤ y:=fun y hy => by
   rcases List.mem_append.1 hy with hy | hy
   ·exact h4 y hy
   ·simp only [List.mem_singleton] at hy;omega
  by_cases hz : h = 0
  ·refine ⟨(hs ++ [h],ds ++ [d],bs,0,0),(hs ++ [h],ds,0,(l.length : Int)),Ev.succ ?_,Ev.succ ?_,⟨rfl,rfl,fun h => absurd rfl h,fun _ => ⟨rfl,d,rfl⟩,hall,by simp;omega,by simp,by simp;omega,fun _ => by dsimp only;omega⟩,fun _ => ⟨fun _ _ => rfl,fun j hj1 hj2 => absurd hj2 (by omega)⟩⟩
   ·simp only [spec_l4Walk.l0]
    exact Ev.ite_neg (by omega) (Ev.ite_pos (by omega) (Ev.ite_pos hz (Ev.some rfl)))
   ·simp only [impl_walkOf.l0]
    exact Ev.ite_pos ⟨by omega,by omega,by omega⟩ (Ev.ite_neg (by omega) (Ev.ite_neg (by omega) (Ev.some rfl)))
  ·refine ⟨(hs ++ [h],ds ++ [d],bs,3,(l.length : Int)),(hs ++ [h],ds,3,(l.length : Int)),Ev.succ ?_,Ev.succ ?_,⟨rfl,rfl,fun _ => rfl,fun h => absurd h (by simp),hall,by simp;omega,by simp,by simp;omega,fun h => absurd h (by simp)⟩,fun h => absurd h (by simp)⟩
   ·simp only [spec_l4Walk.l0]
    exact Ev.ite_neg (by omega) (Ev.ite_pos (by omega) (Ev.ite_neg hz (Ev.some rfl)))
   ·simp only [impl_walkOf.l0]
    exact Ev.ite_pos ⟨by omega,by omega,by omega⟩ (Ev.ite_neg (by omega) (Ev.ite_pos (by omega) (Ev.some rfl)))
 | cons x q ih =>
  intro p0 e o p st rr h b at0 d bases deads op hs bs ds eq hr H HD hpl h1 h2 h3 h4
  have hi : p0.length < l.length:=by rw [eq];simp
  have hrd : rd_T56 l (p0.length : Int) = x:=by unfold rd_T56;rw [eq];exact getD_mid _ _ _ _
  obtain ⟨e',o',st',hr',hopenS,hshutS⟩:=shR_next hr
  have hopen : opB x.f0 = true → st'.length = st.length + 1 ∧ st.length + 1 ≤ 8:=fun h => ⟨by rw [(hopenS h).1];simp,(hopenS h).2⟩
  have hshut : opB x.f0 ≠ true → (x.f0 = 18 ∨ x.f0 = 19 → st.length ≠ 0) ∧ (x.f0 = 19 → st'.length = st.length - 1) ∧ (x.f0 ≠ 19 → st'.length = st.length):=fun h => ⟨(hshutS h).1,fun h9 => by rw [(hshutS h).2.1 h9,List.length_take];omega,fun h9 => by rw [(hshutS h).2.2 h9]⟩
  have hkeep:=shR_keep _ _ _ _ _ _ hr' p0.length (by omega)
  rw [List.getD_eq_getElem?_getD,List.getD_eq_getElem?_getD,List.getElem?_set,if_pos rfl,if_pos (by omega),← List.getD_eq_getElem?_getD,Option.getD_some] at hkeep
  obtain ⟨⟨op0,dl,hop,hbs,hds⟩,hup,hlo,hbh,hh4,hbn,hn8⟩:=H
  have hb0 : 0 ≤ b:=hlo b (by simp)
  have hop0 : op0.length = bases.length:=by rw [← hbs];simp
  have hol : op.length = bases.length + 1:=by rw [hop,List.length_append,List.length_singleton,hop0]
  have hdl : deads.length = bases.length:=by
   have:=congrArg List.length hds
   simp only [List.length_append,List.length_map,List.length_cons,List.length_nil] at this;omega
  have hlast : rdOp op ((op.length : Int) - 1) = ⟨b,dl⟩:=by rw [hop];exact rdOp_last _ _
  have hbase : impl_walker_base.f op = some b:=by
   unfold impl_walker_base.f
   rw [if_pos ⟨by omega,by omega⟩,hlast]
  obtain ⟨n1,n2,hn⟩ : ∃ n1 n2,needsP x.f0 = (n1,n2):=⟨_,_,rfl⟩
  have hrg:=needsP_range x.f0
  rw [hn] at hrg
  dsimp only at hrg
  obtain ⟨h2',hh2⟩ : ∃ h2',h2' = wkH1 n1 b h + n2:=⟨_,rfl⟩
  have hH : b ≤ wkH1 n1 b h ∧ wkH1 n1 b h ≤ 4:=by unfold wkH1;split <;> omega
  have next : ∀ (h' b' at1 : Int) (d' : Bool) (bases' : List Int) (deads' : List Bool) (op' : List OpS),DRel st' (ds ++ [d]) deads' d' → WRel h' b' d' bases' deads' op' st'.length →
    ∃ (r : WI) (s : WS),Ev (fun k => spec_l4Walk.l0 k l h' b' d' bases' deads' l (l.length : Int) ((p0.length : Int) + 1) (hs ++ [h]) (ds ++ [d]) 0 at1) s ∧ Ev (fun k => impl_walkOf.l0 k l (hs ++ [h]) (ds ++ [d]) (bs ++ [b]) h' d' op' (p0.length + 1)) r ∧ WOut l.length r s ∧ DOut l rr ds s:=fun h' b' at1 d' bases' deads' op' G' H' => by
   have:=ih (p0 ++ [x]) e' o' (p.set p0.length st) st' rr h' b' at1 d' bases' deads' op' (hs ++ [h]) (bs ++ [b]) (ds ++ [d]) (by rw [eq];simp) (by rw [List.length_append];exact hr') (by exact H') G' (by simp [hpl]) (by simp [h1]) (by simp [h2]) (by simp [h3]) (fun y hy => by
    rcases List.mem_append.1 hy with hy | hy
    ·exact h4 y hy
    ·simp only [List.mem_singleton] at hy;omega)
   rw [List.length_append] at this
   obtain ⟨r,s,a1,a2,a3,a4⟩:=this
   refine ⟨r,s,a1,a2,a3,fun hs0 => ?_⟩
   obtain ⟨b1,b2⟩:=a4 hs0
   rw [List.length_append,List.length_singleton] at b1 b2
   have b1' : ∀ j : Nat,j < ds.length → rdOf false s.2.1 (j : Int) = rdOf false ds (j : Int):=fun j hj => by
    rw [b1 j (by omega),rdOf_old _ _ _ (by omega) (by omega)]
   refine ⟨b1',fun j hj1 hj2 k hk hkt => ?_⟩
   by_cases hj : j = ds.length
   ·subst hj
    rw [h2,hkeep] at hk
    have hks:=HD.sl k hk
    have e1:=b1' k.toNat (by omega)
    rw [Int.toNat_of_nonneg hks.1] at e1
    rw [b1 ds.length (by omega),rdOf_new]
    have hm : rdOf false ds k ∈ deads:=by rw [HD.dk];exact List.mem_map.2 ⟨k,hk,rfl⟩
    exact (List.pairwise_append.1 HD.mo).2.2 _ hm d (by simp) (by rw [← e1];exact hkt)
   ·exact b2 j (by omega) hj2 k hk hkt
  have stop : ∀ c : Int,c ≠ 0 → WOut l.length (hs ++ [h],ds ++ [d],bs ++ [b],c,(p0.length : Int)) (hs ++ [h],ds ++ [d],c,(p0.length : Int)) ∧ DOut l rr ds (hs ++ [h],ds ++ [d],c,(p0.length : Int)):=fun c hc => ⟨⟨rfl,rfl,fun _ => rfl,fun h => absurd h hc,fun y hy => by
    rcases List.mem_append.1 hy with hy | hy
    ·exact h4 y hy
    ·simp only [List.mem_singleton] at hy;omega,by simp;omega,by simp,by simp;omega,fun h => absurd h hc⟩,fun h => absurd h hc⟩
  -- the program's side
  have implL : ∀ (r : WI),(if (impl_walker_step.g n1 n2 x.f0 h d (opB x.f0) op b).1 = 0 then Ev (fun k => impl_walkOf.l0 k l (hs ++ [h]) (ds ++ [d]) (bs ++ [b]) (impl_walker_step.g n1 n2 x.f0 h d (opB x.f0) op b).2.1 (impl_walker_step.g n1 n2 x.f0 h d (opB x.f0) op b).2.2.1 (impl_walker_step.g n1 n2 x.f0 h d (opB x.f0) op b).2.2.2 (p0.length + 1)) r else r = (hs ++ [h],ds ++ [d],bs ++ [b],(impl_walker_step.g n1 n2 x.f0 h d (opB x.f0) op b).1,(p0.length : Int))) → Ev (fun k => impl_walkOf.l0 k l hs ds bs h d op p0.length) r:=fun r hr2 => by
   refine Ev.succ ?_
   simp only [impl_walkOf.l0,hbase,hrd,Option.bind_some]
   refine Ev.ite_pos ⟨by omega,by omega,by omega⟩ (Ev.ite_pos hi ?_)
   have hst : Ev (fun k => impl_walker_step.f k x.f0 h d op) (impl_walker_step.g n1 n2 x.f0 h d (opB x.f0) op b):=by
    unfold impl_walker_step.f
    simp only [hbase,opens_eq,Option.bind_some]
    have hne:=needsOf_ev x.f0
    rw [hn] at hne
    exact Ev.bind hne (Ev.ite_pos ⟨by omega,by omega,by omega,by omega,by omega,by omega,by omega,by omega⟩ (Ev.some rfl))
   refine Ev.bind hst ?_
   by_cases c : (impl_walker_step.g n1 n2 x.f0 h d (opB x.f0) op b).1 = 0
   ·rw [if_pos c] at hr2
    exact Ev.ite_pos c hr2
   ·rw [if_neg c] at hr2
    exact Ev.ite_neg c (Ev.some hr2.symm)
  -- the specification's side
  have j2L : ∀ (t : Bool) (s : WS),t = decide (x.f0 = 18 ∨ x.f0 = 19) → opB x.f0 ≠ true → (if x.f0 = 18 ∨ x.f0 = 19 then (if h2' = b then (if x.f0 = 19 then Ev (fun k => spec_l4Walk.l0 k l h2' (rd bases ((bases.length - 1 : Nat) : Int)) dl (bases.take (bases.length - 1)) (deads.take (bases.length - 1)) l (l.length : Int) ((p0.length : Int) + 1) (hs ++ [h]) (ds ++ [d]) 0 (p0.length : Int)) s else Ev (fun k => spec_l4Walk.l0 k l h2' b dl bases deads l (l.length : Int) ((p0.length : Int) + 1) (hs ++ [h]) (ds ++ [d]) 0 (p0.length : Int)) s) else s = (hs ++ [h],ds ++ [d],3,(p0.length : Int)))
    else (if x.f0 = 20 ∨ x.f0 = 22 ∨ x.f0 = 14 then Ev (fun k => spec_l4Walk.l0 k l b b true bases deads l (l.length : Int) ((p0.length : Int) + 1) (hs ++ [h]) (ds ++ [d]) 0 (p0.length : Int)) s else Ev (fun k => spec_l4Walk.l0 k l h2' b d bases deads l (l.length : Int) ((p0.length : Int) + 1) (hs ++ [h]) (ds ++ [d]) 0 (p0.length : Int)) s)) →
    Ev (fun k => spec_l4Walk.j2 k l h2' b d bases deads (bases.length : Int) l (l.length : Int) (p0.length : Int) t (hs ++ [h]) (ds ++ [d]) 0 (p0.length : Int) x.f0 x.f1 x.f2) s:=fun t s ht hno hs2 => by
   refine Ev.succ ?_
   simp only [spec_l4Walk.j2]
   rw [wrap_succ (by omega)]
   by_cases c : x.f0 = 18 ∨ x.f0 = 19
   ·rw [if_pos c] at hs2
    refine Ev.ite_pos (by rw [ht];exact decide_eq_true c) ?_
    by_cases c2 : h2' = b
    rotate_left
    ·rw [if_neg c2] at hs2
     exact Ev.ite_neg c2 (Ev.some hs2.symm)
    rw [if_pos c2] at hs2
    have hst0:=(hshut hno).1 c
    have hw : wrap64 ((bases.length : Int) - 1) = ((bases.length - 1 : Nat) : Int):=by rw [wrap64_id (by omega) (by omega)];omega
    have hdd : rdOf false deads ((bases.length - 1 : Nat) : Int) = dl:=by
     obtain ⟨a,y,ha⟩:=snocs_of deads (by omega)
     have h5:=hds
     rw [ha,← List.cons_append] at h5
     have hy : dl = y:=by
      have h6:=(List.append_inj' h5 rfl).2
      simpa using h6
     unfold rdOf
     rw [Int.toNat_natCast,ha,List.getD_eq_getElem?_getD,show bases.length - 1 = a.length by rw [ha] at hdl;simp at hdl;omega,hy]
     simp
    simp only [hw,hdd,Int.toNat_natCast]
    refine Ev.ite_pos c2 (Ev.ite_pos (by omega) (Ev.ite_pos (by omega) ?_))
    by_cases c3 : x.f0 = 19
    ·rw [if_pos c3] at hs2
     exact Ev.ite_pos c3 (Ev.ite_pos (by omega) (Ev.ite_pos (by omega) (Ev.ite_pos (by omega) hs2)))
    ·rw [if_neg c3] at hs2
     exact Ev.ite_neg c3 hs2
   ·rw [if_neg c] at hs2
    refine Ev.ite_neg (by rw [ht,decide_eq_false c];decide) ?_
    by_cases d20 : x.f0 = 20
    ·rw [if_pos (.inl d20)] at hs2;exact Ev.ite_pos d20 hs2
    refine Ev.ite_neg d20 ?_
    by_cases d22 : x.f0 = 22
    ·rw [if_pos (.inr (.inl d22))] at hs2;exact Ev.ite_pos d22 hs2
    refine Ev.ite_neg d22 ?_
    by_cases d14 : x.f0 = 14
    ·rw [if_pos (.inr (.inr d14))] at hs2;exact Ev.ite_pos d14 hs2
    rw [if_neg (by omega)] at hs2
    exact Ev.ite_neg d14 hs2
  have j1L : ∀ (h' : Int) (s : WS),h' - n1 = wkH1 n1 b h → 0 ≤ h' → h' ≤ 10 → (if h2' > 4 then s = (hs ++ [h],ds ++ [d],4,(p0.length : Int)) else (if opB x.f0 = true then Ev (fun k => spec_l4Walk.l0 k l h2' h2' d (bases ++ [b]) (deads ++ [d]) l (l.length : Int) ((p0.length : Int) + 1) (hs ++ [h]) (ds ++ [d]) 0 (p0.length : Int)) s else Ev (fun k => spec_l4Walk.j2 k l h2' b d bases deads (bases.length : Int) l (l.length : Int) (p0.length : Int) (decide (x.f0 = 18 ∨ x.f0 = 19)) (hs ++ [h]) (ds ++ [d]) 0 (p0.length : Int) x.f0 x.f1 x.f2) s)) →
    Ev (fun k => spec_l4Walk.j1 k l h' b d bases deads n1 n2 l (l.length : Int) (p0.length : Int) (hs ++ [h]) (ds ++ [d]) 0 (p0.length : Int) x.f0 x.f1 x.f2) s:=fun h' s e1 e2 e3 hs2 => by
   refine Ev.succ ?_
   simp only [spec_l4Walk.j1,l3Opens_eq,Option.bind_some]
   have hw : wrap64 (h' + wrap64 (n2 - n1)) = h2':=by rw [wrap64_id (x:=n2 - n1) (by omega) (by omega),wrap64_id (by omega) (by omega)];omega
   rw [hw,wrap_succ (by omega)]
   by_cases c : h2' > 4
   ·rw [if_pos c] at hs2
    exact Ev.ite_pos c (Ev.some hs2.symm)
   rw [if_neg c] at hs2
   refine Ev.ite_neg c ?_
   by_cases c2 : opB x.f0 = true
   ·rw [if_pos c2] at hs2
    exact Ev.ite_pos c2 (Ev.ite_pos (by omega) (Ev.ite_pos (by omega) hs2))
   rw [if_neg c2] at hs2
   refine Ev.ite_neg c2 ?_
   by_cases c3 : x.f0 = 18
   ·refine Ev.ite_pos c3 ?_
    rw [decide_eq_true (.inl c3)] at hs2
    exact hs2
   ·refine Ev.ite_neg c3 ?_
    rw [show decide (x.f0 = 18 ∨ x.f0 = 19) = (x.f0 == 19) by rw [beq_dec,decide_eq_decide];omega] at hs2
    exact hs2
  have specL : ∀ (s : WS),(if ¬ n1 ≤ h - b ∧ d = false then s = (hs ++ [h],ds ++ [d],2,(p0.length : Int)) else (if h2' > 4 then s = (hs ++ [h],ds ++ [d],4,(p0.length : Int)) else (if opB x.f0 = true then Ev (fun k => spec_l4Walk.l0 k l h2' h2' d (bases ++ [b]) (deads ++ [d]) l (l.length : Int) ((p0.length : Int) + 1) (hs ++ [h]) (ds ++ [d]) 0 (p0.length : Int)) s else Ev (fun k => spec_l4Walk.j2 k l h2' b d bases deads (bases.length : Int) l (l.length : Int) (p0.length : Int) (decide (x.f0 = 18 ∨ x.f0 = 19)) (hs ++ [h]) (ds ++ [d]) 0 (p0.length : Int) x.f0 x.f1 x.f2) s))) →
    Ev (fun k => spec_l4Walk.l0 k l h b d bases deads l (l.length : Int) (p0.length : Int) hs ds 0 at0) s:=fun s hs2 => by
   refine Ev.succ ?_
   simp only [spec_l4Walk.l0,hrd,Option.bind_some]
   refine Ev.ite_pos (by omega) (Ev.ite_pos (by omega) (Ev.ite_pos (by omega) (Ev.ite_pos (by omega) (Ev.ite_pos (by omega) ?_))))
   have hne:=l4Needs_ev x.f0
   rw [hn] at hne
   refine Ev.bind hne ?_
   dsimp only
   rw [wrap64_id (x:=h - n1) (by omega) (by omega),wrap64_id (x:=b + n1) (by omega) (by omega)]
   by_cases c : n1 ≤ h - b
   ·rw [if_neg (fun hh => hh.1 c)] at hs2
    exact Ev.ite_neg (by omega) (j1L h s (by unfold wkH1;rw [if_pos c]) (by omega) (by omega) hs2)
   ·refine Ev.ite_pos (by omega) ?_
    cases hd : d with
    | false =>
     subst hd
     rw [if_pos ⟨c,rfl⟩] at hs2
     exact Ev.ite_neg (by decide) (Ev.some hs2.symm)
    | true =>
     subst hd
     rw [if_neg (fun hh => absurd hh.2 (by decide))] at hs2
     exact Ev.ite_pos rfl (j1L (b + n1) s (by unfold wkH1;rw [if_neg c];omega) (by omega) (by omega) hs2)
  -- together
  unfold impl_walker_step.g at implL
  by_cases c1 : ¬ n1 ≤ h - b ∧ d = false
  ·rw [if_pos c1] at implL
   exact ⟨_,_,specL _ (by rw [if_pos c1]),implL _ (by rw [if_neg (by simp)]),stop 2 (by decide)⟩
  simp only [if_neg c1] at implL specL
  rw [← hh2] at implL
  by_cases c2 : h2' > 4
  ·simp only [if_pos c2] at implL specL
   exact ⟨_,_,specL _ rfl,implL _ (by rw [if_neg (by simp)]),stop 4 (by decide)⟩
  simp only [if_neg c2] at implL specL
  by_cases c3 : opB x.f0 = true
  ·simp only [if_pos c3] at implL specL
   have ho:=hopen c3
   obtain ⟨r,s,a1,a2,a3⟩:=next h2' h2' (p0.length : Int) d (bases ++ [b]) (deads ++ [d]) (op ++ [⟨h2',d⟩]) (by rw [(hopenS c3).1,← h2];exact HD.push) ⟨⟨op,d,rfl,by rw [hop,List.map_append,hbs];rfl,by rw [hop,List.map_append,← List.cons_append,← hds];rfl⟩,by
    rw [List.pairwise_append]
    refine ⟨hup,by simp,fun y hy z hz => ?_⟩
    simp only [List.mem_singleton] at hz
    rcases List.mem_append.1 hy with hy | hy
    ·have:=(List.pairwise_append.1 hup).2.2 y hy b (by simp);omega
    ·simp only [List.mem_singleton] at hy;omega,fun y hy => by
    rcases List.mem_append.1 hy with hy | hy
    ·exact hlo y hy
    ·simp only [List.mem_singleton] at hy;omega,by omega,by omega,by rw [List.length_append,List.length_singleton];omega,by omega⟩
   exact ⟨r,s,specL s a1,implL r (by first | (rw [if_pos trivial];exact a2) | (rw [if_pos rfl];exact a2)),a3⟩
  simp only [if_neg c3] at implL specL
  obtain ⟨k1,k2,k3⟩:=hshut c3
  by_cases c4 : x.f0 = 18 ∨ x.f0 = 19
  ·by_cases c5 : h2' = b
   rotate_left
   ·simp only [if_pos (And.intro c4 c5)] at implL
    exact ⟨_,_,specL _ (j2L _ _ rfl c3 (by rw [if_pos c4,if_neg c5])),implL _ (by rw [if_neg (by simp)]),stop 3 (by decide)⟩
   simp only [if_neg (show ¬ ((x.f0 = 18 ∨ x.f0 = 19) ∧ h2' ≠ b) from fun hh => hh.2 c5),hlast] at implL
   have hne:=k1 c4
   have hdd0 : ∃ deads0,deads = deads0 ++ [dl]:=by
    obtain ⟨a,z,ha⟩:=snocs_of deads (by omega)
    have h5:=hds
    rw [ha,← List.cons_append] at h5
    have h6:=(List.append_inj' h5 rfl).2
    exact ⟨a,by rw [ha];simp only [List.cons.injEq,and_true] at h6;rw [h6]⟩
   obtain ⟨deads9,hdd9⟩:=hdd0
   by_cases c6 : x.f0 = 18
   ·simp only [if_pos c6] at implL
    obtain ⟨r,s,a1,a2,a3⟩:=next h2' b (p0.length : Int) dl bases deads op (by rw [(hshutS c3).2.2 (by omega)];exact HD.els hdd9) ⟨⟨op0,dl,hop,hbs,hds⟩,hup,hlo,by omega,by omega,by rw [k3 (by omega)];exact hbn,by rw [k3 (by omega)];exact hn8⟩
    exact ⟨r,s,specL s (j2L _ _ rfl c3 (by rw [if_pos c4,if_pos c5,if_neg (by omega)];exact a1)),implL r (by first | (rw [if_pos trivial];exact a2) | (rw [if_pos rfl];exact a2)),a3⟩
   ·have c7 : x.f0 = 19:=c4.resolve_left c6
    simp only [if_neg c6,if_pos c7] at implL
    obtain ⟨op00,y,hy⟩:=snocs_of op0 (by omega)
    obtain ⟨yb,yd⟩:=y
    have hb2 : bases = op00.map OpS.f0 ++ [yb]:=by rw [← hbs,hy,List.map_append];rfl
    have hbl : bases.length - 1 = (op00.map OpS.f0).length:=by rw [hb2];simp
    have hrb : rd bases ((bases.length - 1 : Nat) : Int) = yb:=by rw [hbl,hb2];exact rd_last _ _
    have htb : bases.take (bases.length - 1) = op00.map OpS.f0:=by rw [hbl,hb2];simp
    have hdd : ∃ deads0,deads = deads0 ++ [dl] ∧ op00.map OpS.f1 ++ [yd] = false :: deads0:=by
     obtain ⟨a,z,ha⟩:=snocs_of deads (by omega)
     have h5:=hds
     rw [ha,← List.cons_append,hy,List.map_append] at h5
     have h6:=List.append_inj' h5 rfl
     exact ⟨a,by rw [ha];have h7:=h6.2;simp only [List.cons.injEq,and_true] at h7;rw [h7],h6.1⟩
    obtain ⟨deads0,hd0,hd1⟩:=hdd
    have htd : deads.take (bases.length - 1) = deads0:=by
     rw [show bases.length - 1 = deads0.length by rw [hd0] at hdl;simp at hdl;omega,hd0];simp
    have hto : op.take (op.length - 1) = op00 ++ [⟨yb,yd⟩]:=by
     rw [show op.length - 1 = op0.length by omega,hop,← hy];simp
    have hyb : yb ≤ b:=by
     have:=(List.pairwise_append.1 hup).2.2 yb (by rw [hb2];simp) b (by simp)
     exact this
    obtain ⟨r,s,a1,a2,a3⟩:=next h2' yb (p0.length : Int) dl (op00.map OpS.f0) deads0 (op00 ++ [⟨yb,yd⟩]) (by rw [(hshutS c3).2.1 c7];exact HD.end_ hd0) ⟨⟨op00,yd,rfl,rfl,hd1⟩,by rw [← hb2];exact (List.pairwise_append.1 hup).1,fun z hz => hlo z (List.mem_append.2 (.inl (by rw [hb2];exact hz))),by omega,by omega,by rw [k2 c7,← hbl];omega,by rw [k2 c7];omega⟩
    rw [hto] at implL
    refine ⟨r,s,specL s (j2L _ _ rfl c3 (by rw [if_pos c4,if_pos c5,if_pos c7,hrb,htb,htd];exact a1)),implL r (by first | (rw [if_pos trivial];exact a2) | (rw [if_pos rfl];exact a2)),a3⟩
  ·simp only [if_neg (show ¬ ((x.f0 = 18 ∨ x.f0 = 19) ∧ h2' ≠ b) from fun hh => c4 hh.1),if_neg (show ¬ x.f0 = 18 from fun hh => c4 (.inl hh)),if_neg (show ¬ x.f0 = 19 from fun hh => c4 (.inr hh))] at implL
   have k3':=k3 (fun hh => c4 (.inr hh))
   by_cases c5 : x.f0 = 20 ∨ x.f0 = 22 ∨ x.f0 = 14
   ·simp only [if_pos c5] at implL
    obtain ⟨r,s,a1,a2,a3⟩:=next b b (p0.length : Int) true bases deads op (by rw [(hshutS c3).2.2 (fun hh => c4 (.inr hh))];exact HD.pass true (fun _ => rfl)) ⟨⟨op0,dl,hop,hbs,hds⟩,hup,hlo,by omega,by omega,by rw [k3'];exact hbn,by rw [k3'];exact hn8⟩
    exact ⟨r,s,specL s (j2L _ _ rfl c3 (by rw [if_neg c4,if_pos c5];exact a1)),implL r (by first | (rw [if_pos trivial];exact a2) | (rw [if_pos rfl];exact a2)),a3⟩
   ·simp only [if_neg c5] at implL
    obtain ⟨r,s,a1,a2,a3⟩:=next h2' b (p0.length : Int) d bases deads op (by rw [(hshutS c3).2.2 (fun hh => c4 (.inr hh))];exact HD.pass d id) ⟨⟨op0,dl,hop,hbs,hds⟩,hup,hlo,by omega,by omega,by rw [k3'];exact hbn,by rw [k3'];exact hn8⟩
    exact ⟨r,s,specL s (j2L _ _ rfl c3 (by rw [if_neg c4,if_neg c5];exact a1)),implL r (by first | (rw [if_pos trivial];exact a2) | (rw [if_pos rfl];exact a2)),a3⟩

theorem spGoodSteps_ev (l : List S56) (hl : l.length ≤ 1048576) (hx : ∀ x ∈ l,x.f2.length ≤ 1048576) : Ev (fun k => spec_GoodSteps.f k l) (shapeR l).isSome:=by
 unfold spec_GoodSteps.f
 exact Ev.bind (l3Ends_ev l hl hx) (Ev.some (ends_shape l).1)

/-- Both sides' walks over a whole list. -/
theorem walk_start {l : List S56} {rr : List Int × List Int × List (List Int)} (h : shapeR l = some rr) : ∃ (r : WI) (s : WS),Ev (fun k => spec_l4Walk.f k l) s ∧ Ev (fun k => impl_walkOf.l0 k l [] [] [] 0 false [zOp] 0) r ∧ WOut l.length r s ∧ l.length ≤ 60 ∧ DOut l rr [] s:=by
 unfold shapeR at h
 by_cases hc : l.length ≤ 60 ∧ l.all stB = true
 rotate_left
 ·rw [if_neg hc] at h;exact absurd h (by simp)
 rw [if_pos hc] at h
 obtain ⟨r,s,a1,a2,a3,a4⟩:=walk_both l hc.1 l [] _ _ _ [] rr 0 0 0 false [] [] [zOp] [] [] [] rfl h ⟨⟨[],false,rfl,rfl,rfl⟩,by simp,by simp,by decide,by decide,rfl,by decide⟩ ⟨rfl,by simp,by simp⟩ (by simp) rfl rfl rfl (by simp)
 exact ⟨r,s,a1,a2,a3,hc.1,a4⟩
theorem walkOf_none {l : List S56} (h : shapeR l = none) (hl : l.length ≤ 1048576) (hx : ∀ x ∈ l,x.f2.length ≤ 1048576) : Ev (fun k => impl_walkOf.f k l) none:=by
 unfold impl_walkOf.f
 have:=shapeOf_ev l hl hx
 rw [h] at this
 exact Ev.bind this (Ev.some rfl)
theorem walkOf_some {l : List S56} {rr : List Int × List Int × List (List Int)} (h : shapeR l = some rr) (hl : l.length ≤ 1048576) (hx : ∀ x ∈ l,x.f2.length ≤ 1048576) {r : WI} (hr : Ev (fun k => impl_walkOf.l0 k l [] [] [] 0 false [zOp] 0) r) (h60 : l.length ≤ 60) : Ev (fun k => impl_walkOf.f k l) (some ⟨rr.1,rr.2.1,rr.2.2,r.1,r.2.1,r.2.2.1,r.2.2.2.1,r.2.2.2.2⟩):=by
 unfold impl_walkOf.f
 have:=shapeOf_ev l hl hx
 rw [h] at this
 refine Ev.bind this ?_
 dsimp only
 unfold impl_walkOf.g
 exact Ev.ite_pos h60 (Ev.bind hr (Ev.some rfl))

theorem validOf_both (l : List S56) (hl : l.length ≤ 1048576) (hx : ∀ x ∈ l,x.f2.length ≤ 1048576) : (Ev (fun k => impl_validOf.f k l) none ∧ ∃ hs ds c a,Ev (fun k => spec_l4Valid.f k l) (hs,ds,c,a,false)) ∨ ∃ (x : WRes) (ds : List Bool) (c a : Int) (d : Bool),Ev (fun k => impl_validOf.f k l) (some x) ∧ Ev (fun k => spec_l4Valid.f k l) (x.hs,ds,c,a,true) ∧ x.ds = ds ++ [d] ∧ (∀ y ∈ x.hs,0 ≤ y) ∧ x.hs.length ≤ 100 ∧ x.hs.length ≠ 0 ∧ x.ds.length ≤ 100 ∧ ds.length = l.length ∧ l.length ≤ 60 ∧ ∃ rr,shapeR l = some rr ∧ x.e = rr.1 ∧ DOut l rr [] (x.hs,ds,0,a):=by
 unfold spec_l4Valid.f impl_validOf.f
 have hg:=spGoodSteps_ev l hl hx
 cases hs : shapeR l with
 | none =>
  rw [hs] at hg
  exact .inl ⟨Ev.bind (walkOf_none hs hl hx) (Ev.some rfl),_,_,_,_,Ev.bind hg (Ev.ite_neg (by decide) (Ev.some rfl))⟩
 | some rr =>
  rw [hs] at hg
  obtain ⟨r,s,a1,a2,⟨b1,b2,b3,b4,b5,b6,b7,b8,b9⟩,h60,hD⟩:=walk_start hs
  have hw:=walkOf_some hs hl hx a2 h60
  by_cases c : s.2.2.1 = 0
  ·obtain ⟨_,d,hd⟩:=b4 c
   refine .inr ⟨_,s.2.1,s.2.2.1,s.2.2.2,d,Ev.bind hw (Ev.some (if_pos (b2.trans c))),Ev.bind hg (Ev.ite_pos rfl (Ev.bind a1 (Ev.some ?_))),hd,b5,b6,b7,b8,b9 c,h60,rr,rfl,rfl,?_⟩
   rotate_left
   ·exact fun _ => hD c
   dsimp only
   rw [b1,show (s.2.2.1 == 0) = true by simpa using c]
  ·refine .inl ⟨Ev.bind hw (Ev.some (if_neg (fun h => c (b2.symm.trans h)))),s.1,s.2.1,s.2.2.1,s.2.2.2,Ev.bind hg (Ev.ite_pos rfl (Ev.bind a1 (Ev.some ?_)))⟩
   rw [show (s.2.2.1 == 0) = false by simpa using c]

theorem markIntS_l0 (q : List Int) : ∀ (p : List Int) (a : Int),p.length + q.length ≤ 1000000000000000 → -1000000000000000 ≤ a → a + q.length ≤ 1000000000000000000 → Ev (fun k => laws_markIntS.l0 k (p ++ q) a (p.length : Int)) (a + q.length,p ++ upI a q.length):=by
 induction q with
 | nil =>
  intro p a h0 h1 h2
  refine ⟨1,fun k hk => ?_⟩
  (try dsimp only)
  obtain ⟨k,rfl⟩ : ∃ m,k = m + 1:=⟨k - 1,by omega⟩
  simp only [laws_markIntS.l0]
  rw [if_neg (by simp)];simp [upI]
 | cons x q ih =>
  intro p a h0 h1 h2
  simp only [List.length_cons] at h0 h2
  obtain ⟨K,hK⟩:=ih (p ++ [a]) (a + 1) (by simp;omega) (by omega) (by omega)
  (try dsimp only at hK)
  refine ⟨K + 1,fun k hk => ?_⟩
  (try dsimp only)
  obtain ⟨k,rfl,hk'⟩:=within_lo hk
  simp only [laws_markIntS.l0]
  have hK':=hK k hk'
  simp only [List.append_assoc,List.cons_append,List.nil_append] at hK'
  have e1 : wrap64 ((p.length : Int) + 1) = ((p ++ [a]).length : Int):=by
   rw [wrap64_id (by omega) (by omega)];simp
  rw [if_pos (by simp;omega),if_pos (by omega),Int.toNat_natCast,set_mid,e1,wrap64_id (by omega) (by omega),hK']
  simp only [upI,List.length_cons]
  rw [show a + 1 + (q.length : Int) = a + ((q.length + 1 : Nat) : Int) from by omega]
theorem markIntS_ev (l : List Int) (a : Int) (h0 : l.length ≤ 1000000000000000) (h1 : -1000000000000000 ≤ a) (h2 : a + l.length ≤ 1000000000000000000) : Ev (fun k => laws_markIntS.f k l a) (a + l.length,upI a l.length) :=
 markIntS_l0 l [] a (by simpa using h0) h1 h2

/-- What marks leave of a row of steps, and where they end. -/
def mkS : Int → List S56 → List S56
 | _,[] => []
 | a,x :: q => ⟨a,a + 1,upI (a + 2) x.f2.length⟩ :: mkS (a + 2 + x.f2.length) q
def mkN : Int → List S56 → Int
 | a,[] => a
 | a,x :: q => mkN (a + 2 + x.f2.length) q
theorem mkN_ge (q : List S56) : ∀ a,a ≤ mkN a q:=by
 induction q with
 | nil => intro a;exact Int.le_refl a
 | cons x q ih => intro a;rw [mkN];have:=ih (a + 2 + x.f2.length);omega
theorem markStepS_ev (q : List S56) : ∀ (p : List S56) (a : Int),p.length + q.length ≤ 1048576 → (∀ x ∈ q,x.f2.length ≤ 1048576) → 0 ≤ a → a + (q.length : Int) * 1048580 ≤ 1000000000000000 →
  Ev (fun k => laws_markStepS.l0 k (p ++ q) a (p.length : Int)) (mkN a q,p ++ mkS a q):=by
 induction q with
 | nil =>
  intro p a h0 h1 h2 h3
  refine Ev.succ ?_
  simp only [laws_markStepS.l0]
  exact Ev.ite_neg (by simp) (Ev.some (by simp [mkN,mkS]))
 | cons x q ih =>
  intro p a h0 h1 h2 h3
  simp only [List.length_cons] at h0 h3
  have hx:=h1 x (by simp)
  have hr : rd_T56 (p ++ x :: q) (p.length : Int) = x:=by unfold rd_T56;exact getD_mid _ _ _ _
  refine Ev.succ ?_
  simp only [laws_markStepS.l0,hr]
  refine Ev.ite_pos (by simp;omega) (Ev.ite_pos (by omega) ?_)
  rw [wrap64_id (x:=a + 1) (by omega) (by omega),wrap64_id (x:=a + 1 + 1) (by omega) (by omega),show a + 1 + 1 = a + 2 by omega]
  refine Ev.bind (markIntS_ev x.f2 (a + 2) (by omega) (by omega) (by omega)) ?_
  dsimp only
  rw [Int.toNat_natCast,set_mid,wrap_succ (by omega)]
  have:=ih (p ++ [⟨a,a + 1,upI (a + 2) x.f2.length⟩]) (a + 2 + x.f2.length) (by simp;omega) (fun y hy => h1 y (by simp [hy])) (by omega) (by omega)
  rw [List.append_assoc,List.length_append] at this
  rw [mkN,mkS]
  exact Ev.cast this (by simp)
theorem markStepSF_ev (q : List S56) (h0 : q.length ≤ 1048576) (h1 : ∀ x ∈ q,x.f2.length ≤ 1048576) : Ev (fun k => laws_markStepS.f k q 1) (mkN 1 q,mkS 1 q):=by
 unfold laws_markStepS.f
 exact markStepS_ev q [] 1 (by simpa using h0) h1 (by omega) (by omega)

theorem heldIntS_l0 (n : Nat) : ∀ (p : List Int) (a : Int),p.length + n ≤ 1000000000000000 → -1000000000000000 ≤ a → a + n ≤ 1000000000000000000 → Ev (fun k => laws_heldIntS.l0 k (p ++ upI a n) a (p.length : Int)) (a + n):=by
 induction n with
 | zero =>
  intro p a h0 h1 h2
  refine ⟨1,fun k hk => ?_⟩
  (try dsimp only)
  obtain ⟨k,rfl⟩ : ∃ m,k = m + 1:=⟨k - 1,by omega⟩
  simp only [laws_heldIntS.l0]
  rw [if_neg (by simp [upI])];simp
 | succ n ih =>
  intro p a h0 h1 h2
  obtain ⟨K,hK⟩:=ih (p ++ [a]) (a + 1) (by simp;omega) (by omega) (by omega)
  (try dsimp only at hK)
  refine ⟨K + 1,fun k hk => ?_⟩
  (try dsimp only)
  obtain ⟨k,rfl,hk'⟩:=within_lo hk
  rw [laws_heldIntS.l0,show upI a (n + 1) = a :: upI (a + 1) n from rfl]
  have hK':=hK k hk'
  simp only [List.append_assoc,List.cons_append,List.nil_append] at hK'
  have e1 : wrap64 ((p.length : Int) + 1) = ((p ++ [a]).length : Int):=by
   rw [wrap64_id (by omega) (by omega)];simp
  rw [if_pos (by simp <;> omega),if_pos (by omega),rd_mid,if_pos rfl,e1,wrap64_id (by omega) (by omega),hK']
  congr 1;omega
theorem heldIntS_ev (n : Nat) (a : Int) (h0 : n ≤ 1000000000000000) (h1 : -1000000000000000 ≤ a) (h2 : a + n ≤ 1000000000000000000) : Ev (fun k => laws_heldIntS.f k (upI a n) a) (a + n) :=
 heldIntS_l0 n [] a (by simpa using h0) h1 h2

theorem heldStepS_ev (q : List S56) : ∀ (p : List S56) (a : Int),p.length + q.length ≤ 1048576 → (∀ x ∈ q,x.f2.length ≤ 1048576) → 0 ≤ a → a + (q.length : Int) * 1048580 ≤ 1000000000000000 →
  Ev (fun k => laws_heldStepS.l0 k (p ++ mkS a q) a (p.length : Int)) (mkN a q):=by
 induction q with
 | nil =>
  intro p a h0 h1 h2 h3
  refine Ev.succ ?_
  simp only [laws_heldStepS.l0]
  exact Ev.ite_neg (by simp [mkS]) (Ev.some rfl)
 | cons x q ih =>
  intro p a h0 h1 h2 h3
  simp only [List.length_cons] at h0 h3
  have hx:=h1 x (by simp)
  rw [mkS]
  have hr : rd_T56 (p ++ ⟨a,a + 1,upI (a + 2) x.f2.length⟩ :: mkS (a + 2 + x.f2.length) q) (p.length : Int) = ⟨a,a + 1,upI (a + 2) x.f2.length⟩:=by unfold rd_T56;exact getD_mid _ _ _ _
  refine Ev.succ ?_
  simp only [laws_heldStepS.l0,hr]
  refine Ev.ite_pos (by simp <;> omega) (Ev.ite_pos (by omega) (Ev.ite_pos (by trivial) ?_))
  rw [wrap64_id (x:=a + 1) (by omega) (by omega),wrap64_id (x:=a + 1 + 1) (by omega) (by omega),show a + 1 + 1 = a + 2 by omega]
  refine Ev.ite_pos (by trivial) (Ev.bind (heldIntS_ev x.f2.length (a + 2) (by omega) (by omega) (by omega)) (Ev.ite_neg (by omega) ?_))
  rw [wrap_succ (by omega)]
  have:=ih (p ++ [⟨a,a + 1,upI (a + 2) x.f2.length⟩]) (a + 2 + x.f2.length) (by simp;omega) (fun y hy => h1 y (by simp [hy])) (by omega) (by omega)
  rw [List.append_assoc,List.length_append] at this
  rw [mkN]
  exact this
theorem heldStepSF_ev (q : List S56) (h0 : q.length ≤ 1048576) (h1 : ∀ x ∈ q,x.f2.length ≤ 1048576) : Ev (fun k => laws_heldStepS.f k (mkS 1 q) 1) (mkN 1 q):=by
 unfold laws_heldStepS.f
 exact heldStepS_ev q [] 1 (by simpa using h0) h1 (by omega) (by omega)

theorem opB_ne {a : Int} (h : opB a = true) : a ≠ 18 ∧ a ≠ 19:=by
 unfold opB at h
 rw [decide_eq_true_iff] at h
 omega
/-- One step of a shape that is made, and what it does to the rows. -/
theorem shR_inv {l : List S56} {x : S56} {q : List S56} {out e o : List Int} {p : List (List Int)} {st : List Int} {i : Nat} {r : List Int × List Int × List (List Int)} (h : RelI l out e o st i) (hi : i < l.length) (hrd : rd_T56 l (i : Int) = x) (hr : shR l (x :: q) e o p st i = some r) :
  ∃ out' e' o' st',RelI l out' e' o' st' (i + 1) ∧ shR l q e' o' (p.set i st) st' (i + 1) = some r ∧
   ((e' = e ∧ o' = o ∧ x.f0 ≠ 18 ∧ x.f0 ≠ 19) ∨ (x.f0 = 18 ∧ e' = e ∧ ∃ t : Nat,t < i ∧ opB (rd_T56 l (t : Int)).f0 = true ∧ rd e (t : Int) < 0 ∧ rd o (t : Int) < 0 ∧ ∀ j : Nat,rd o' (j : Int) = if t = j then (i : Int) else rd o (j : Int)) ∨
    (x.f0 = 19 ∧ o' = o ∧ ∃ t : Nat,t < i ∧ opB (rd_T56 l (t : Int)).f0 = true ∧ rd e (t : Int) < 0 ∧ ∀ j : Nat,rd e' (j : Int) = if i = j then (t : Int) else if t = j ∨ (0 ≤ rd o (t : Int) ∧ rd o (t : Int) = j) then (i : Int) else rd e (j : Int))):=by
 rw [shR] at hr
 by_cases h2 : wiB x st.length = true
 rotate_left
 ·rw [if_neg h2] at hr;exact absurd hr (by simp)
 rw [if_pos h2] at hr
 by_cases h3 : opB x.f0 = true
 ·rw [if_pos h3] at hr
  by_cases h4 : st.length + 1 > 8
  ·rw [if_pos h4] at hr;exact absurd hr (by simp)
  rw [if_neg h4] at hr
  exact ⟨_,_,_,_,h.push hi (by rw [hrd];exact h3) (by omega),hr,.inl ⟨rfl,rfl,opB_ne h3⟩⟩
 rw [if_neg h3] at hr
 by_cases h4 : x.f0 = 18
 ·rw [if_pos h4] at hr
  by_cases h5 : st.length = 0
  ·rw [if_pos h5] at hr;exact absurd hr (by simp)
  rw [if_neg h5] at hr
  obtain ⟨t,htt,ht,hto,hte⟩:=h.top h5
  rw [htt,Int.toNat_natCast] at hr
  by_cases h6 : (rd_T56 l (t : Int)).f0 = 17
  rotate_left
  ·rw [if_neg h6] at hr;exact absurd hr (by simp)
  rw [if_pos h6] at hr
  by_cases h7 : 0 ≤ rd o (t : Int)
  ·rw [if_pos h7] at hr;exact absurd hr (by simp)
  rw [if_neg h7] at hr
  exact ⟨_,_,_,_,h.else_ hi (by rw [hrd];exact h3) (by rw [hrd];exact h4) ht hto hte,hr,.inr (.inl ⟨h4,rfl,t,ht,hto,hte,by omega,fun j => rd_set _ (by rw [h.ol];omega) j⟩)⟩
 rw [if_neg h4] at hr
 by_cases h5 : x.f0 = 19
 rotate_left
 ·rw [if_neg h5] at hr
  exact ⟨_,_,_,_,h.pass hi (by rw [hrd];exact h3),hr,.inl ⟨rfl,rfl,h4,h5⟩⟩
 rw [if_pos h5] at hr
 by_cases h6 : st.length = 0
 ·rw [if_pos h6] at hr;exact absurd hr (by simp)
 rw [if_neg h6] at hr
 obtain ⟨t,htt,ht,hto,hte⟩:=h.top h6
 have hc:=h.C t (by omega)
 have hMl:=h.Ml
 have hel:=h.el
 rw [htt,Int.toNat_natCast] at hr
 have hE : ∃ e',e'.length = l.length ∧ shR l q e' o (p.set i st) (st.take (st.length - 1)) (i + 1) = some r ∧ ∀ j : Nat,rd e' (j : Int) = if i = j then (t : Int) else if t = j ∨ (0 ≤ rd o (t : Int) ∧ rd o (t : Int) = j) then (i : Int) else rd e (j : Int):=by
  by_cases h7 : 0 ≤ rd o (t : Int)
  ·rw [if_pos h7] at hr
   refine ⟨_,?_,hr,fun j => ?_⟩
   ·simp only [List.length_set];exact hel
   ·rw [rd_set _ (by simp only [List.length_set];omega),rd_set _ (by simp only [List.length_set];omega),rd_set _ (by omega)]
    by_cases c3 : (rd o (t : Int)).toNat = j
    ·rw [if_pos c3,if_neg (by omega),if_pos (by omega)]
    rw [if_neg c3]
    by_cases c2 : t = j
    ·rw [if_pos c2,if_neg (by omega),if_pos (.inl c2)]
    rw [if_neg c2]
    by_cases c1 : i = j
    ·rw [if_pos c1,if_pos c1]
    ·rw [if_neg c1,if_neg c1,if_neg (by omega)]
  ·rw [if_neg h7] at hr
   refine ⟨_,?_,hr,fun j => ?_⟩
   ·simp only [List.length_set];exact hel
   ·rw [rd_set _ (by simp only [List.length_set];omega),rd_set _ (by omega)]
    by_cases c2 : t = j
    ·rw [if_pos c2,if_neg (by omega),if_pos (.inl c2)]
    rw [if_neg c2]
    by_cases c1 : i = j
    ·rw [if_pos c1,if_pos c1]
    ·rw [if_neg c1,if_neg c1,if_neg (by omega)]
 obtain ⟨e',hel',hr',he'⟩:=hE
 have hMM : ∃ M' : List Int,M'.length = i + 1 ∧ ∀ j : Nat,rd M' (j : Int) = if i = j then (t : Int) else if t = j ∨ (0 ≤ rd o (t : Int) ∧ rd o (t : Int) = j) then (i : Int) else rd (out ++ [-1]) (j : Int):=by
  by_cases h7 : 0 ≤ rd o (t : Int)
  ·refine ⟨((((out ++ [-1]).set (rd o (t : Int)).toNat (i : Int)).set t (i : Int)).set i (t : Int)),by simp only [List.length_set];exact hMl,fun j => ?_⟩
   rw [rd_set _ (by simp only [List.length_set];omega),rd_set _ (by simp only [List.length_set];omega),rd_set _ (by omega)]
   by_cases c1 : i = j
   ·rw [if_pos c1,if_pos c1]
   rw [if_neg c1,if_neg c1]
   by_cases c2 : t = j
   ·rw [if_pos c2,if_pos (.inl c2)]
   rw [if_neg c2]
   by_cases c3 : (rd o (t : Int)).toNat = j
   ·rw [if_pos c3,if_pos (by omega)]
   ·rw [if_neg c3,if_neg (by omega)]
  ·refine ⟨(((out ++ [-1]).set t (i : Int)).set i (t : Int)),by simp only [List.length_set];exact hMl,fun j => ?_⟩
   rw [rd_set _ (by simp only [List.length_set];omega),rd_set _ (by omega)]
   by_cases c1 : i = j
   ·rw [if_pos c1,if_pos c1]
   rw [if_neg c1,if_neg c1]
   by_cases c2 : t = j
   ·rw [if_pos c2,if_pos (.inl c2)]
   ·rw [if_neg c2,if_neg (by omega)]
 obtain ⟨M',hM1,hM2⟩:=hMM
 exact ⟨M',e',o,_,h.end_ hi (by rw [hrd];exact h5) h6 htt ht hto hte hM1 hel' hM2 he',hr',.inr (.inr ⟨h5,rfl,t,ht,hto,hte,he'⟩)⟩
/-- What the rows say of those that end, and of the other branches. -/
structure GInv (l : List S56) (e o : List Int) (i : Nat) : Prop where
 a : ∀ j : Nat,j < i → (rd_T56 l (j : Int)).f0 = 19 → ∃ t : Nat,rd e (j : Int) = t ∧ t < j ∧ opB (rd_T56 l (t : Int)).f0 = true ∧ rd e (t : Int) = j
 b : ∀ j : Nat,j < i → (rd_T56 l (j : Int)).f0 = 18 → ∃ t : Nat,t < j ∧ opB (rd_T56 l (t : Int)).f0 = true ∧ (∀ t2 : Nat,rd o (t2 : Int) = j → t2 = t) ∧ ((rd e (t : Int) < 0 ∧ rd o (t : Int) = j) ∨ ∃ m : Nat,j ≤ m ∧ rd e (j : Int) = m ∧ rd e (m : Int) = t ∧ rd e (t : Int) = m ∧ (rd_T56 l (m : Int)).f0 = 19)
theorem rd_none {l : List Int} {j : Nat} (h : l.length ≤ j) : rd l (j : Int) = 0:=by
 unfold rd;rw [Int.toNat_natCast,List.getD_eq_getElem?_getD,List.getElem?_eq_none h];rfl
theorem shG (l : List S56) : ∀ (q p0 : List S56) (out e o : List Int) (p : List (List Int)) (st : List Int) (r : List Int × List Int × List (List Int)),l = p0 ++ q → RelI l out e o st p0.length → GInv l e o p0.length → shR l q e o p st p0.length = some r → ∃ out',RelI l out' r.1 r.2.1 [] l.length ∧ GInv l r.1 r.2.1 l.length:=by
 intro q
 induction q with
 | nil =>
  intro p0 out e o p st r eq h hG hr
  have hn : p0.length = l.length:=by rw [eq];simp
  rw [shR] at hr
  by_cases hs : st.length = 0
  rotate_left
  ·rw [if_neg hs] at hr;exact absurd hr (by simp)
  rw [if_pos hs] at hr
  obtain rfl:=Option.some.inj hr
  rw [List.eq_nil_of_length_eq_zero hs,hn] at h
  rw [hn] at hG
  exact ⟨out,h,hG⟩
 | cons x q ih =>
  intro p0 out e o p st r eq h hG hr
  have hi : p0.length < l.length:=by rw [eq];simp
  have hrd : rd_T56 l (p0.length : Int) = x:=by unfold rd_T56;rw [eq];exact getD_mid _ _ _ _
  obtain ⟨out',e',o',st',h',hr',hc⟩:=shR_inv h hi hrd hr
  refine ih (p0 ++ [x]) out' e' o' _ st' r (by rw [eq];simp) (by rw [List.length_append];exact h') ?_ (by rw [List.length_append];exact hr')
  rw [List.length_append,List.length_singleton]
  obtain ⟨i,hie⟩ : ∃ i,i = p0.length:=⟨_,rfl⟩
  rw [← hie] at h hG hi hrd hc ⊢
  rcases hc with ⟨rfl,rfl,n18,n19⟩ | ⟨x18,rfl,t,ht,hto,hte,hot,ho'⟩ | ⟨x19,rfl,t,ht,hto,hte,he'⟩
  ·refine ⟨fun j hj hop => hG.a j ?_ hop,fun j hj hop => hG.b j ?_ hop⟩
   ·by_cases hj2 : j = i
    ·rw [hj2,hrd] at hop;exact absurd hop n19
    ·omega
   ·by_cases hj2 : j = i
    ·rw [hj2,hrd] at hop;exact absurd hop n18
    ·omega
  ·refine ⟨fun j hj hop => hG.a j ?_ hop,fun j hj hop => ?_⟩
   ·by_cases hj2 : j = i
    ·rw [hj2,hrd,x18] at hop;exact absurd hop (by decide)
    ·omega
   ·by_cases hj2 : j = i
    ·subst hj2
     refine ⟨t,ht,hto,fun t2 h2 => ?_,.inl ⟨hte,by rw [ho',if_pos rfl]⟩⟩
     rw [ho'] at h2
     by_cases c : t = t2
     ·exact c.symm
     ·rw [if_neg c] at h2
      by_cases c2 : t2 < l.length
      ·have:=h.C t2 c2;omega
      ·rw [rd_none (by rw [h.ol];omega)] at h2;omega
    ·obtain ⟨t1,b1,b2,b3,b4⟩:=hG.b j (by omega) hop
     refine ⟨t1,b1,b2,fun t2 h2 => ?_,?_⟩
     ·rw [ho'] at h2
      by_cases c : t = t2
      ·rw [if_pos c] at h2;clear b4;omega
      ·rw [if_neg c] at h2;exact b3 t2 h2
     ·rcases b4 with ⟨c1,c2⟩ | c1
      ·refine .inl ⟨c1,?_⟩
       rw [ho',if_neg (fun hh => by subst hh;omega)];exact c2
      ·exact .inr c1
  ·have hio : ∀ j : Nat,j < i + 1 → opB (rd_T56 l (j : Int)).f0 = true → ¬ (0 ≤ rd o' (t : Int) ∧ rd o' (t : Int) = j):=fun j hj hop hh => by
    have:=(h.F t (by omega) hh.1).2
    rw [hh.2] at this
    exact (opB_ne hop).1 this
   have keep : ∀ j : Nat,j < i → opB (rd_T56 l (j : Int)).f0 = true → j ≠ t → rd e' (j : Int) = rd e (j : Int):=fun j hj hop hjt => by
    rw [he',if_neg (by omega),if_neg (fun hh => hh.elim (fun h2 => hjt h2.symm) (hio j (by omega) hop))]
   have htop:=opB_ne hto
   refine ⟨fun j hj hop => ?_,fun j hj hop => ?_⟩
   ·by_cases hj2 : j = i
    ·subst hj2
     exact ⟨t,by rw [he',if_pos rfl],ht,hto,by rw [he',if_neg (by omega),if_pos (.inl rfl)]⟩
    ·obtain ⟨t1,a1,a2,a3,a4⟩:=hG.a j (by omega) hop
     have hne : ¬ (0 ≤ rd o' (t : Int) ∧ rd o' (t : Int) = j):=fun hh => by
      have:=(h.F t (by omega) hh.1).2
      rw [hh.2,hop] at this
      exact absurd this (by decide)
     refine ⟨t1,?_,a2,a3,?_⟩
     ·rw [he',if_neg (by omega),if_neg (fun hh => hh.elim (fun h2 => by subst h2;exact htop.2 hop) hne)];exact a1
     ·rw [keep t1 (by omega) a3 (fun hh => by subst hh;omega)];exact a4
   ·by_cases hj2 : j = i
    ·rw [hj2,hrd,x19] at hop;exact absurd hop (by decide)
    ·obtain ⟨t1,b1,b2,b3,b4⟩:=hG.b j (by omega) hop
     refine ⟨t1,b1,b2,b3,?_⟩
     by_cases ct : t1 = t
     ·subst ct
      rcases b4 with ⟨c1,c2⟩ | ⟨m,c1,c2,c3,c4,c5⟩
      ·refine .inr ⟨i,by omega,?_,?_,?_,by rw [hrd];exact x19⟩
       ·rw [he',if_neg (by omega),if_pos (.inr ⟨by omega,c2⟩)]
       ·rw [he',if_pos rfl]
       ·rw [he',if_neg (by omega),if_pos (.inl rfl)]
      ·omega
     ·rcases b4 with ⟨c1,c2⟩ | ⟨m,c1,c2,c3,c4,c5⟩
      ·exact .inl ⟨by rw [keep t1 (by omega) b2 ct];exact c1,c2⟩
      ·have hmi : m < i:=by have:=h.C j (by omega);omega
       have hnj : ¬ (t = j ∨ (0 ≤ rd o' (t : Int) ∧ rd o' (t : Int) = j)):=fun hh => hh.elim (fun h2 => by subst h2;exact htop.1 hop) (fun h2 => ct (b3 t h2.2).symm)
       have hnm : ¬ (t = m ∨ (0 ≤ rd o' (t : Int) ∧ rd o' (t : Int) = m)):=fun hh => by
        rcases hh with h2 | ⟨h2,h3⟩
        ·subst h2;omega
        ·have h18:=(h.F t (by omega) h2).2
         rw [h3] at h18
         omega
       refine .inr ⟨m,c1,?_,?_,?_,c5⟩
       ·rw [he',if_neg (by omega),if_neg hnj];exact c2
       ·rw [he',if_neg (by omega),if_neg hnm];exact c3
       ·rw [keep t1 (by omega) b2 ct];exact c4
/-- What ends, and what is another branch, is bound to something that is open there. -/
theorem shapeR_pairs {l : List S56} {r : List Int × List Int × List (List Int)} (h : shapeR l = some r) : ∀ j : Nat,j < l.length → ((rd_T56 l (j : Int)).f0 = 19 → ∃ t : Nat,t < l.length ∧ rd r.1 (j : Int) = t ∧ (t : Int) ∈ r.2.2.getD j []) ∧ ((rd_T56 l (j : Int)).f0 = 18 → ∃ m t : Nat,m < l.length ∧ t < l.length ∧ rd r.1 (j : Int) = m ∧ rd r.1 (m : Int) = t ∧ (t : Int) ∈ r.2.2.getD j []):=by
 obtain ⟨_,_,hF⟩:=shapeR_fin h
 unfold shapeR at h
 by_cases hc : l.length ≤ 60 ∧ l.all stB = true
 rotate_left
 ·rw [if_neg hc] at h;exact absurd h (by simp)
 rw [if_pos hc] at h
 obtain ⟨out',hR,hG⟩:=shG l l [] _ _ _ _ _ r rfl (RelI.start l) ⟨fun j hj => absurd hj (by simp),fun j hj => absurd hj (by simp)⟩ h
 intro j hj
 rw [hF.new j (by omega) hj]
 have mem : ∀ t : Nat,t < j → opB (rd_T56 l (t : Int)).f0 = true → (j : Int) ≤ rd r.1 (t : Int) → (t : Int) ∈ stkF l r.1 j:=fun t h1 h2 h3 => by
  unfold stkF
  refine List.mem_map.2 ⟨t,List.mem_filter.2 ⟨List.mem_range.2 h1,?_⟩,rfl⟩
  rw [Bool.and_eq_true,decide_eq_true_iff]
  exact ⟨h2,h3⟩
 refine ⟨fun hop => ?_,fun hop => ?_⟩
 ·obtain ⟨t,a1,a2,a3,a4⟩:=hG.a j hj hop
  exact ⟨t,by omega,a1,mem t a2 a3 (by omega)⟩
 ·obtain ⟨t,a1,a2,a3,a4⟩:=hG.b j hj hop
  rcases a4 with ⟨c1,c2⟩ | ⟨m,c1,c2,c3,c4,c5⟩
  ·have : (t : Int) ∈ opL l r.1 l.length:=opL_mem.2 ⟨t,rfl,by omega,a2,c1⟩
   rw [← hR.D] at this
   exact absurd this (by simp)
  ·have:=(hF.lo j hj)
   exact ⟨m,t,by omega,by omega,c2,c3,mem t a1 a2 (by omega)⟩

/-- What is left. -/
def stayB (l : List S56) (ds : List Bool) (e : List Int) (i : Int) : Bool :=
 if (rd_T56 l i).f0 = 19 then !(rdOf false ds (rd e i)) else if (rd_T56 l i).f0 = 18 then !(rdOf false ds (rd e (rd e i))) else !(rdOf false ds i)
def cutR (l : List S56) (ds : List Bool) (e : List Int) : List S56 → Int → List S56
 | [],_ => []
 | x :: q,i => if stayB l ds e i = true then x :: cutR l ds e q (i + 1) else cutR l ds e q (i + 1)
theorem cutR_sub (l : List S56) (ds : List Bool) (e : List Int) : ∀ (q : List S56) (i : Int),(cutR l ds e q i).length ≤ q.length ∧ ∀ x ∈ cutR l ds e q i,x ∈ q:=by
 intro q
 induction q with
 | nil => intro i;exact ⟨by simp [cutR],fun x hx => hx⟩
 | cons y q ih =>
  intro i
  obtain ⟨h1,h2⟩:=ih (i + 1)
  rw [cutR]
  by_cases c : stayB l ds e i = true
  ·rw [if_pos c]
   refine ⟨by simp only [List.length_cons];omega,fun x hx => ?_⟩
   rcases List.mem_cons.1 hx with rfl | hx
   ·simp
   ·exact List.mem_cons_of_mem _ (h2 x hx)
  ·rw [if_neg c]
   exact ⟨by simp only [List.length_cons];omega,fun x hx => List.mem_cons_of_mem _ (h2 x hx)⟩
section
variable {l : List S56} {ds : List Bool} {d : Bool} {rr : List Int × List Int × List (List Int)} {a : Int} {hs : List Int}
theorem spec_cut (hsh : shapeR l = some rr) (hds : ds.length = l.length) (h60 : l.length ≤ 60) (hx : ∀ x ∈ l,x.f2.length ≤ 1048576) : ∀ (q p out : List S56),l = p ++ q → out.length ≤ p.length → Ev (fun k => spec_l4Cut.l0 k ds rr.1 out l (l.length : Int) (p.length : Int)) (out ++ cutR l ds rr.1 q (p.length : Int)):=by
 have hel:=(shapeR_fin hsh).2.2.el
 intro q
 induction q with
 | nil =>
  intro p out e ho
  refine Ev.succ ?_
  simp only [spec_l4Cut.l0]
  have : l.length = p.length:=by rw [e];simp
  exact Ev.ite_neg (by omega) (Ev.some (by simp [cutR]))
 | cons x q ih =>
  intro p out e ho
  have hlen : p.length < l.length:=by rw [e];simp
  have hr : rd_T56 l (p.length : Int) = x:=by unfold rd_T56;rw [e];exact getD_mid _ _ _ _
  have hxx:=hx x (by rw [e];simp)
  have skip : Ev (fun k => spec_l4Cut.l0 k ds rr.1 out l (l.length : Int) ((p.length : Int) + 1)) (out ++ cutR l ds rr.1 q ((p.length : Int) + 1)):=by
   have:=ih (p ++ [x]) out (by rw [e];simp) (by simp;omega)
   rw [List.length_append] at this
   exact this
  have take : Ev (fun k => spec_l4Cut.l0 k ds rr.1 (out ++ [x]) l (l.length : Int) ((p.length : Int) + 1)) (out ++ x :: cutR l ds rr.1 q ((p.length : Int) + 1)):=by
   have:=ih (p ++ [x]) (out ++ [x]) (by rw [e];simp) (by simp;omega)
   rw [List.length_append,List.append_assoc] at this
   exact this
  have hP:=shapeR_pairs hsh p.length hlen
  rw [hr] at hP
  refine Ev.succ ?_
  simp only [spec_l4Cut.l0,hr]
  rw [wrap_succ (by omega),cutR]
  have fork : ∀ (b : Bool),stayB l ds rr.1 (p.length : Int) = !b → Ev (fun k => if b = true then spec_l4Cut.l0 k ds rr.1 out l (l.length : Int) ((p.length : Int) + 1) else (some ([] : List Int)).bind fun y => if y.length + x.f2.length < 17592186044416 then (if out.length < 3518437208883 then spec_l4Cut.l0 k ds rr.1 (out ++ [⟨x.f0,x.f1,y ++ x.f2⟩]) l (l.length : Int) ((p.length : Int) + 1) else none) else none) (out ++ if stayB l ds rr.1 (p.length : Int) = true then x :: cutR l ds rr.1 q ((p.length : Int) + 1) else cutR l ds rr.1 q ((p.length : Int) + 1)):=fun b hb => by
   rw [hb]
   cases b with
   | true => exact Ev.ite_pos rfl skip
   | false =>
    refine Ev.ite_neg (by decide) ?_
    simp only [Option.bind_some]
    exact Ev.ite_pos (by simp;omega) (Ev.ite_pos (by omega) take)
  refine Ev.ite_pos (by omega) (Ev.ite_pos (by omega) (Ev.ite_pos (by omega) (Ev.ite_pos (by omega) ?_)))
  by_cases c19 : x.f0 = 19
  ·obtain ⟨t,t1,t2,_⟩:=hP.1 c19
   refine Ev.ite_pos c19 (Ev.ite_pos (by omega) (Ev.ite_pos (by omega) (Ev.ite_pos (by omega) ?_)))
   exact fork _ (by unfold stayB;rw [hr,if_pos c19])
  refine Ev.ite_neg c19 ?_
  by_cases c18 : x.f0 = 18
  ·obtain ⟨m,t,m1,t1,t2,t3,_⟩:=hP.2 c18
   refine Ev.ite_pos c18 (Ev.ite_pos (by omega) (Ev.ite_pos (by omega) (Ev.ite_pos (by omega) (Ev.ite_pos (by rw [t2,t3];omega) (Ev.ite_pos (by rw [t2,t3];omega) ?_)))))
   exact fork _ (by unfold stayB;rw [hr,if_neg c19,if_pos c18])
  refine Ev.ite_neg c18 ?_
  exact fork _ (by unfold stayB;rw [hr,if_neg c19,if_neg c18])
theorem stays_eq (hsh : shapeR l = some rr) (hds : ds.length = l.length) (h60 : l.length ≤ 60) (hD : DOut l rr [] (hs,ds,0,a)) (i : Nat) (hi : i < l.length) : impl_walk_stays.f l (ds ++ [d]) rr.1 i = some (stayB l ds rr.1 (i : Int)):=by
 have hT : ∀ j : Int,rd_T56 l j = rd_T56 l j:=fun _ => rfl
 have hlow:=(hD rfl).2
 dsimp only at hlow
 have old : ∀ t : Nat,t < l.length → rdOf false (ds ++ [d]) (t : Int) = rdOf false ds (t : Int):=fun t ht => rdOf_old _ _ _ (by omega) (by omega)
 have hP:=shapeR_pairs hsh i hi
 unfold impl_walk_stays.f stayB
 rw [if_pos ⟨hi,h60,by simp;omega⟩,old i hi,hT]
 by_cases c19 : (rd_T56 l (i : Int)).f0 = 19
 ·obtain ⟨t,t1,t2,t3⟩:=hP.1 c19
  have h1:=hlow i (by simp) hi _ t3
  rw [if_pos c19,if_pos c19,t2,old t t1,if_pos (show (0 : Int) ≤ (t : Int) ∧ (t : Int) < (l.length : Int) from ⟨by omega,by omega⟩)]
  by_cases c : rdOf false ds (i : Int) = false
  ·rw [if_pos c]
   cases hb : rdOf false ds (t : Int) with
   | false => rfl
   | true => rw [h1 hb] at c;exact absurd c (by decide)
  ·rw [if_neg c]
 rw [if_neg c19,if_neg c19]
 by_cases c18 : (rd_T56 l (i : Int)).f0 = 18
 ·obtain ⟨m,t,m1,t1,t2,t3,t4⟩:=hP.2 c18
  have h1:=hlow i (by simp) hi _ t4
  rw [if_pos c18,if_pos c18,t2,t3,old t t1,if_pos (show (0 : Int) ≤ (m : Int) ∧ (m : Int) < (l.length : Int) from ⟨by omega,by omega⟩),if_pos (show (0 : Int) ≤ (t : Int) ∧ (t : Int) < (l.length : Int) from ⟨by omega,by omega⟩)]
  by_cases c : rdOf false ds (i : Int) = false
  ·rw [if_pos c]
   cases hb : rdOf false ds (t : Int) with
   | false => rfl
   | true => rw [h1 hb] at c;exact absurd c (by decide)
  ·rw [if_neg c]
 rw [if_neg c18,if_neg c18]
 cases hb : rdOf false ds (i : Int) <;> simp
theorem impl_cut (hsh : shapeR l = some rr) (hds : ds.length = l.length) (h60 : l.length ≤ 60) (hx : ∀ x ∈ l,x.f2.length ≤ 1048576) (hD : DOut l rr [] (hs,ds,0,a)) : ∀ (q p out : List S56),l = p ++ q → out.length ≤ p.length → Ev (fun k => impl_walk_cut.l0 k l (ds ++ [d]) rr.1 out p.length) (out ++ cutR l ds rr.1 q (p.length : Int)):=by
 intro q
 induction q with
 | nil =>
  intro p out e ho
  refine Ev.succ ?_
  simp only [impl_walk_cut.l0]
  have : l.length = p.length:=by rw [e];simp
  exact Ev.ite_neg (by omega) (Ev.some (by simp [cutR]))
 | cons x q ih =>
  intro p out e ho
  have hlen : p.length < l.length:=by rw [e];simp
  have hr : rd_T56 l (p.length : Int) = x:=by
   show rd_T56 l (p.length : Int) = x
   unfold rd_T56;rw [e];exact getD_mid _ _ _ _
  have hxx:=hx x (by rw [e];simp)
  refine Ev.succ ?_
  simp only [impl_walk_cut.l0,hr,stays_eq (d:=d) hsh hds h60 hD p.length hlen,Option.bind_some]
  refine Ev.ite_pos hlen ?_
  rw [cutR]
  by_cases c : stayB l ds rr.1 (p.length : Int) = true
  ·rw [if_pos c]
   have:=ih (p ++ [x]) (out ++ [x]) (by rw [e];simp) (by simp;omega)
   rw [List.length_append,List.append_assoc] at this
   exact Ev.ite_pos c (Ev.ite_pos ⟨by omega,by omega⟩ this)
  ·rw [if_neg c]
   have:=ih (p ++ [x]) out (by rw [e];simp) (by simp;omega)
   rw [List.length_append] at this
   exact Ev.ite_neg c this
end
theorem cutDead_both (l : List S56) (hl : l.length ≤ 1048576) (hx : ∀ x ∈ l,x.f2.length ≤ 1048576) : ∃ v : List S56 × Bool,Ev (fun k => spec_CutDead.f k l) v ∧ Ev (fun k => impl_CutDead.f k l) v ∧ v.1.length ≤ 60 ∧ ∀ x ∈ v.1,x.f2.length ≤ 1048576:=by
 unfold spec_CutDead.f impl_CutDead.f
 rcases validOf_both l hl hx with ⟨a1,hs,ds,c,a,a2⟩ | ⟨x,ds,c,a,d,a1,a2,e1,a3,a4,a5,a6,e2,e3,rr,e4,e5,e6⟩
 ·exact ⟨([],false),Ev.bind a2 (Ev.ite_neg (by simp) (Ev.some rfl)),Ev.bind a1 (Ev.some rfl),by simp,by simp⟩
 ·obtain ⟨c1,c2⟩:=cutR_sub l ds rr.1 l 0
  have hcut : Ev (fun k => spec_l4Cut.f k l ds) (cutR l ds rr.1 l 0):=by
   unfold spec_l4Cut.f
   refine Ev.bind (l3Ends_ev l hl hx) ?_
   rw [(ends_shape l).2 rr e4]
   exact spec_cut e4 e2 e3 hx l [] [] rfl (by simp)
  refine ⟨(cutR l ds rr.1 l 0,true),Ev.bind a2 (Ev.ite_pos rfl (Ev.bind hcut (Ev.some rfl))),Ev.bind a1 ?_,by dsimp only;omega,fun y hy => hx y (c2 y hy)⟩
  dsimp only
  refine Ev.bind (a:=cutR l ds rr.1 l 0) ?_ (Ev.some rfl)
  rw [e1,e5]
  unfold impl_walk_cut.f
  exact Ev.ite_pos e3 (impl_cut e4 e2 e3 hx e6 l [] [] rfl (by simp))
theorem FnExactCutDead : laws_FnExactCutDead.Pure:=by
 intro a ha hx
 refine Ev.rounds (g:=fun k => laws_FnExactCutDead.f k a) ?_
 unfold laws_FnExactCutDead.f
 obtain ⟨r,hr,h⟩:=szStepS_ev a ha (fun x hxm => (hx x hxm).2.2.1)
 refine Ev.bind hr ?_
 by_cases hn : r < 0
 ·exact Ev.ite_pos hn (Ev.now _)
 ·obtain ⟨h1,h2⟩:=h.resolve_left hn
  have hT:=toStepS_ev a h1 h2
  have g1 : (a.map cv).length ≤ 1048576:=by simpa using h1
  have g2 : ∀ x ∈ a.map cv,x.f2.length ≤ 1048576:=fun x hxm => by
   obtain ⟨y,hy,rfl⟩:=List.mem_map.1 hxm;exact h2 y hy
  obtain ⟨v,sp,im,hl,hv⟩:=cutDead_both (a.map cv) g1 g2
  have es:=eqStepS_ev (a.map cv) (a.map cv) (by omega) (fun x hxm => by have:=g2 x hxm;omega) rfl
  have eq:=eqStepS_ev v.1 v.1 (by omega) (fun x hxm => by have:=hv x hxm;omega) rfl
  have mk:=mkN_ge (a.map cv) 1
  have mv:=mkN_ge v.1 1
  have he:=heldStepSF_ev v.1 (by omega) hv
  refine Ev.ite_neg hn (Ev.bind hT (Ev.bind sp (Ev.bind hT (Ev.bind im ?_))))
  refine Ev.bind eq (Ev.ite_pos rfl (Ev.ite_pos rfl (Ev.bind hT (Ev.bind es (Ev.ite_pos rfl (Ev.bind (markStepSF_ev _ g1 g2) (Ev.ite_neg (by dsimp only;omega) ?_)))))))
  refine Ev.bind eq (Ev.ite_pos rfl (Ev.ite_pos rfl (Ev.bind (markStepSF_ev _ (by omega) hv) (Ev.bind he (Ev.ite_neg (by omega) (Ev.ite_pos rfl ?_))))))
  refine Ev.bind hT (Ev.bind im (Ev.bind eq (Ev.ite_pos rfl (Ev.ite_pos rfl (Ev.bind he (Ev.ite_neg (by omega) (Ev.ite_pos rfl (Ev.now _))))))))

end Go.Proofs.Ytmljikgegclolaa.Pure
