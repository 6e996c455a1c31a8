/- Of every graph and number the law of entriesof tells true. No condition beyond the row's own. -/
import Derived.Test.YtbmnoenbhlfjaaaQ0
import Derived.Test.YtbmnoenbhlfjaaaQ1
import Derived.Test.YtbmnoenbhlfjaaaQ10
import Derived.Test.YtbmnoenbhlfjaaaQ11
import Derived.Test.YtbmnoenbhlfjaaaQ12
import Derived.Test.YtbmnoenbhlfjaaaQ13
import Derived.Test.YtbmnoenbhlfjaaaQ2
import Derived.Test.YtbmnoenbhlfjaaaQ3
import Derived.Test.YtbmnoenbhlfjaaaQ4
import Derived.Test.YtbmnoenbhlfjaaaQ5
import Derived.Test.YtbmnoenbhlfjaaaQ54
import Derived.Test.YtbmnoenbhlfjaaaQ55
import Derived.Test.YtbmnoenbhlfjaaaQ56
import Derived.Test.YtbmnoenbhlfjaaaQ57
import Derived.Test.YtbmnoenbhlfjaaaQ6
import Derived.Test.YtbmnoenbhlfjaaaQ7
import Derived.Test.YtbmnoenbhlfjaaaQ8
import Derived.Test.YtbmnoenbhlfjaaaQ9
import Derived.Test.YtbmnoenbhlfjaaaLib1
import Derived.Test.YtbmnoenbhlfjaaaLib2
import Derived.Test.YtbmnoenbhlfjaaaTab
namespace Go.Proofs.Ytbmnoenbhlfjaaa.Pure
open Go.RowKit Go.Proofs.Ytbmnoenbhlfjaaa.Lib Go.Proofs.Ytbmnoenbhlfjaaa.Q Go.Proofs.YtbmnoenbhlfjaaaW.PrintWords Go.Proofs.YtbmnoenbhlfjaaaW.PrintLast Go.Proofs.YtbmnoenbhlfjaaaW.PrintMore
set_option linter.unusedVariables false
set_option linter.unusedSimpArgs false

theorem toIntS_l0 (q : List Int) : ∀ (p : List Int),p.length + q.length ≤ 1000000000000000 → Ev (fun k => laws_toIntS.l0 k (p ++ q) (p ++ List.replicate q.length 0) (p.length : Int)) (p ++ q):=by
 induction q with
 | nil =>
  intro p h0
  refine ⟨1,fun k hk => ?_⟩
  (try dsimp only)
  obtain ⟨k,rfl⟩ : ∃ m,k = m + 1:=⟨k - 1,by omega⟩
  simp only [laws_toIntS.l0]
  rw [if_neg (by simp)];simp
 | cons x q ih =>
  intro p h0
  simp only [List.length_cons] at h0
  obtain ⟨K,hK⟩:=ih (p ++ [x]) (by simp;omega)
  (try dsimp only at hK)
  refine ⟨K + 1,fun k hk => ?_⟩
  (try dsimp only)
  obtain ⟨k,rfl,hk'⟩:=within_lo hk
  simp only [laws_toIntS.l0]
  have hK':=hK k hk'
  simp only [List.append_assoc,List.cons_append,List.nil_append] at hK'
  have e1 : wrap64 ((p.length : Int) + 1) = ((p ++ [x]).length : Int):=by
   rw [wrap64_id (by omega) (by omega)];simp
  rw [if_pos (by simp;omega),if_pos (by omega),if_pos (by simp;omega),Int.toNat_natCast,rd_mid,List.length_cons,List.replicate_succ,set_mid,e1,hK']
theorem toIntS_ev (l : List Int) (h : l.length ≤ 1048576) : Ev (fun k => laws_toIntS.f k l) l:=by
 obtain ⟨K,hK⟩:=toIntS_l0 l [] (by simp;omega)
 (try dsimp only at hK)
 refine ⟨K,fun k hk => ?_⟩
 (try dsimp only)
 unfold laws_toIntS.f
 rw [if_pos (by omega),if_pos (by omega),Int.toNat_natCast]
 exact hK k hk

theorem eqIntS_l0 (d : Nat) : ∀ (p p' q q' : List Int),p.length = p'.length → q.length = d → q'.length = d → p.length + d ≤ 1000000000000000 → Ev (fun k => laws_eqIntS.l0 k (p ++ q) (p' ++ q') (p.length : Int)) (decide (q = q')):=by
 induction d with
 | zero =>
  intro p p' q q' hp hq hq' hb
  obtain rfl : q = []:=by simpa using hq
  obtain rfl : q' = []:=by simpa using hq'
  refine ⟨1,fun k hk => ?_⟩
  (try dsimp only)
  obtain ⟨k,rfl⟩ : ∃ m,k = m + 1:=⟨k - 1,by omega⟩
  simp only [laws_eqIntS.l0]
  rw [if_neg (by simp)];rfl
 | succ d ih =>
  intro p p' q q' hp hq hq' hb
  match q,q',hq,hq' with
  | x :: q,y :: q',hq,hq' =>
   simp only [List.length_cons] at hq hq'
   have r1:=rd_mid p q x
   have r2:=rd_mid p' q' y
   rw [← hp] at r2
   have e1 : wrap64 ((p.length : Int) + 1) = ((p ++ [x]).length : Int):=by
    rw [wrap64_id (by omega) (by omega)];simp
   by_cases hxy : x = y
   ·subst hxy
    obtain ⟨K,hK⟩:=ih (p ++ [x]) (p' ++ [x]) q q' (by simp [hp]) (by omega) (by omega) (by simp;omega)
    (try dsimp only at hK)
    refine ⟨K + 1,fun k hk => ?_⟩
    (try dsimp only)
    obtain ⟨k,rfl,hk'⟩:=within_lo hk
    simp only [laws_eqIntS.l0]
    have hK':=hK k hk'
    simp only [List.append_assoc,List.cons_append,List.nil_append] at hK'
    rw [if_pos (by simp;omega),if_pos (by omega),if_pos (by simp;omega),r1,r2,if_pos rfl,e1,hK']
    simp
   ·refine ⟨1,fun k hk => ?_⟩
    (try dsimp only)
    obtain ⟨k,rfl⟩ : ∃ m,k = m + 1:=⟨k - 1,by omega⟩
    simp only [laws_eqIntS.l0]
    rw [if_pos (by simp;omega),if_pos (by omega),if_pos (by simp;omega),r1,r2,if_neg hxy]
    simp [hxy]
theorem eqIntS_ev (a b : List Int) (h : a.length ≤ 1000000000000000) : Ev (fun k => laws_eqIntS.f k a b) (decide (a = b)):=by
 by_cases hl : a.length = b.length
 ·obtain ⟨K,hK⟩:=eqIntS_l0 a.length [] [] a b rfl rfl hl.symm (by simpa using h)
  (try dsimp only at hK)
  refine ⟨K,fun k hk => ?_⟩
  (try dsimp only)
  unfold laws_eqIntS.f
  rw [if_pos (by omega)]
  exact hK k hk
 ·refine ⟨0,fun k _ => ?_⟩
  (try dsimp only)
  unfold laws_eqIntS.f
  rw [if_neg (by omega)]
  congr 1;symm
  rw [decide_eq_false_iff_not]
  rintro rfl;exact hl rfl

theorem szIntS_some3 (l : List Int) (a : Int) (ha : a ≤ 1048576) (ha0 : 0 ≤ a) (hl : l.length ≤ maxLen) : laws_szIntS.f l a = some (if (l.length : Int) ≤ a then a - l.length else -1):=by
 unfold maxLen at hl
 unfold laws_szIntS.f
 rw [wrap64_id (by omega) (by omega)]
 by_cases h : (l.length : Int) ≤ a
 ·rw [if_neg (by omega),if_pos h]
 ·rw [if_pos (by omega),if_neg h]
/-- The sizes of what is left of rows of rows: less than nothing, or all are small. -/
def szSS (a : Int) : List (List Int) → Int
 | [] => a
 | x :: q => if (x.length : Int) ≤ a then szSS (a - x.length) q else -1
theorem szSS_some (q : List (List Int)) : ∀ a : Int,0 ≤ a → szSS a q < 0 ∨ ∀ x ∈ q,(x.length : Int) ≤ a:=by
 induction q with
 | nil => intro a _;exact .inr (by simp)
 | cons x q ih =>
  intro a ha
  unfold szSS
  by_cases h : (x.length : Int) ≤ a
  ·rw [if_pos h]
   rcases ih (a - x.length) (by omega) with h1 | h1
   ·exact .inl h1
   ·refine .inr fun y hy => ?_
    rcases List.mem_cons.mp hy with rfl | hy
    ·exact h
    ·have:=h1 y hy;omega
  ·rw [if_neg h];exact .inl (by omega)
theorem szSS_le (q : List (List Int)) : ∀ a : Int,0 ≤ a → szSS a q ≤ a ∧ -1 ≤ szSS a q:=by
 induction q with
 | nil => intro a _;unfold szSS;omega
 | cons x q ih =>
  intro a ha
  unfold szSS
  by_cases h : (x.length : Int) ≤ a
  ·rw [if_pos h];have:=ih (a - x.length) (by omega);omega
  ·rw [if_neg h];omega
theorem szIntSS_ev (l : List (List Int)) (a : Int) (ha : a ≤ 1048576) (ha0 : 0 ≤ a) (hl : l.length ≤ maxLen) (hx : ∀ x ∈ l,x.length ≤ maxLen) : Ev (fun k => laws_szIntSS.f k l a) (if (l.length : Int) ≤ a then szSS (a - l.length) l else -1):=by
 unfold maxLen at hl
 unfold laws_szIntSS.f
 rw [wrap64_id (by omega) (by omega)]
 by_cases h : (l.length : Int) ≤ a
 ·rw [if_pos h]
  refine Ev.ite_neg (by omega) ?_
  refine Ev.rangeI l (fun k b i => laws_szIntSS.l0 k l b i) (fun b _ q => szSS b q) (fun b _ => 0 ≤ b ∧ b ≤ a) (fun b _ => ?_) (fun b p x q e hb ih => ?_) _ ⟨by omega,by omega⟩
  ·refine Ev.succ ?_
   simp only [laws_szIntSS.l0]
   exact Ev.ite_neg (by omega) (Ev.some rfl)
  ·refine Ev.succ ?_
   simp only [laws_szIntSS.l0]
   have hlen : p.length < l.length:=by rw [e];simp
   refine Ev.ite_pos (by omega) (Ev.ite_pos (by omega) ?_)
   have hrd : rd_L1 l (p.length : Int) = x:=by unfold rd_L1;rw [e];exact getD_mid _ _ _ _
   rw [hrd,szIntS_some3 x b (by omega) hb.1 (hx x (by rw [e];simp))]
   simp only [Option.bind_some]
   by_cases h1 : (x.length : Int) ≤ b
   ·simp only [if_pos h1]
    refine Ev.ite_neg (by omega) ?_
    rw [wrap_succ (by omega),szSS,if_pos h1]
    exact ih _ ⟨by omega,by omega⟩
   ·simp only [if_neg h1]
    refine Ev.ite_pos (by omega) (Ev.some ?_)
    rw [szSS,if_neg h1]
 ·rw [if_neg h]
  exact Ev.ite_pos (by omega) (Ev.some rfl)
theorem toIntSS_ev (l : List (List Int)) (hl : l.length ≤ 1048576) (hx : ∀ x ∈ l,x.length ≤ 1048576) : Ev (fun k => laws_toIntSS.f k l) l:=by
 unfold laws_toIntSS.f
 refine Ev.ite_pos (by omega) (Ev.ite_pos (by omega) ?_)
 rw [Int.toNat_natCast]
 have:=Ev.rangeI (ρ:=List (List Int)) l (fun k b i => laws_toIntSS.l0 k l b i) (fun _ _ _ => l) (fun b p => b = p ++ List.replicate (l.length - p.length) []) (fun b hb => ?_) (fun b p x q e hb ih => ?_) (List.replicate l.length []) (by simp)
 ·exact this
 ·refine Ev.succ ?_
  simp only [laws_toIntSS.l0]
  refine Ev.ite_neg (by omega) (Ev.some ?_)
  rw [hb];simp
 ·refine Ev.succ ?_
  simp only [laws_toIntSS.l0]
  have hlen : p.length < l.length:=by rw [e];simp
  have hbl : b.length = l.length:=by rw [hb];simp;omega
  have hrd : rd_L1 l (p.length : Int) = x:=by unfold rd_L1;rw [e];exact getD_mid _ _ _ _
  refine Ev.ite_pos (by omega) (Ev.ite_pos (by omega) ?_)
  rw [hrd]
  refine Ev.bind (toIntS_ev x (hx x (by rw [e];simp))) (Ev.ite_pos (by omega) ?_)
  rw [Int.toNat_natCast,wrap_succ (by omega)]
  refine ih _ ?_
  rw [hb,show l.length - p.length = (l.length - (p ++ [x]).length) + 1 from by simp;omega,List.replicate_succ,set_mid]
  simp
theorem eqIntSS_ev (a b : List (List Int)) (h : a.length ≤ 1000000000000000) (hx : ∀ x ∈ a,x.length ≤ 1000000000000000) : Ev (fun k => laws_eqIntSS.f k a b) (decide (a = b)):=by
 unfold laws_eqIntSS.f
 by_cases hl : a.length = b.length
 ·refine Ev.ite_pos (by omega) ?_
  refine Ev.rangeI a (fun k (_ : Unit) i => laws_eqIntSS.l0 k a b i) (fun _ _ _ => decide (a = b)) (fun _ p => p = b.take p.length) (fun _ hp => ?_) (fun _ p x q e hp ih => ?_) () (by simp)
  ·refine Ev.succ ?_
   simp only [laws_eqIntSS.l0]
   refine Ev.ite_neg (by omega) (Ev.some ?_)
   rw [hl,List.take_length] at hp
   simp [hp]
  ·refine Ev.succ ?_
   simp only [laws_eqIntSS.l0]
   have hlen : p.length < a.length:=by rw [e];simp
   have hrd : rd_L1 a (p.length : Int) = x:=by unfold rd_L1;rw [e];exact getD_mid _ _ _ _
   refine Ev.ite_pos (by omega) (Ev.ite_pos (by omega) (Ev.ite_pos (by omega) ?_))
   rw [hrd]
   have hrb : rd_L1 b (p.length : Int) = b[p.length]'(by omega):=by
    unfold rd_L1;rw [Int.toNat_natCast,List.getD_eq_getElem?_getD,List.getElem?_eq_getElem (by omega)];rfl
   rw [hrb]
   refine Ev.bind (eqIntS_ev x _ (hx x (by rw [e];simp))) ?_
   by_cases hxy : x = b[p.length]'(by omega)
   ·refine Ev.ite_pos (by simpa using hxy) ?_
    rw [wrap_succ (by omega)]
    refine ih () ?_
    rw [List.length_append,List.length_singleton,List.take_succ_eq_append_getElem (by omega),← hp,← hxy]
   ·refine Ev.ite_neg (by simpa using hxy) (Ev.some ?_)
    symm
    rw [decide_eq_false_iff_not]
    rintro rfl
    apply hxy
    simp [e]
 ·refine Ev.ite_neg (by omega) (Ev.some ?_)
  symm
  rw [decide_eq_false_iff_not]
  rintro rfl
  exact hl rfl

theorem szGraph_ev (l : List (List Int)) (hl : l.length ≤ maxLen) (hx : ∀ x ∈ l,x.length ≤ maxLen) :
  ∃ r,Ev (fun k => laws_szGraph.f k l 1048576) r ∧ (r < 0 ∨ l.length ≤ 1048576 ∧ ∀ x ∈ l,x.length ≤ 1048576):=by
 have h:=szIntSS_ev l 1048576 (by omega) (by omega) hl hx
 by_cases hlen : (l.length : Int) ≤ 1048576
 ·rw [if_pos hlen] at h
  refine ⟨if szSS (1048576 - l.length) l < 0 then -1 else szSS (1048576 - l.length) l,?_,?_⟩
  ·unfold laws_szGraph.f
   refine Ev.bind h ?_
   by_cases h1 : szSS (1048576 - l.length) l < 0
   ·exact Ev.ite_pos h1 (Ev.some (if_pos h1).symm)
   ·exact Ev.ite_neg h1 (Ev.some (if_neg h1).symm)
  ·rcases szSS_some l (1048576 - l.length) (by omega) with h1 | h1
   ·rw [if_pos h1];exact .inl (by omega)
   ·exact .inr ⟨by omega,fun x hx => by have:=h1 x hx;omega⟩
 ·rw [if_neg hlen] at h
  refine ⟨-1,?_,.inl (by omega)⟩
  unfold laws_szGraph.f
  exact Ev.bind h (Ev.ite_pos (by omega) (Ev.some rfl))
theorem toGraph_ev (l : List (List Int)) (hl : l.length ≤ 1048576) (hx : ∀ x ∈ l,x.length ≤ 1048576) : Ev (fun k => laws_toGraph.f k l) l:=by
 unfold laws_toGraph.f
 exact Ev.bind (toIntSS_ev l hl hx) (Ev.some rfl)
theorem eqGraph_ev (a b : List (List Int)) (h : a.length ≤ 1000000000000000) (hx : ∀ x ∈ a,x.length ≤ 1000000000000000) : Ev (fun k => laws_eqGraph.f k a b) (decide (a = b)):=by
 unfold laws_eqGraph.f
 refine Ev.bind (eqIntSS_ev a b h hx) ?_
 by_cases hab : a = b
 ·exact Ev.ite_pos (by simpa using hab) (Ev.some (by simp [hab]))
 ·exact Ev.ite_neg (by simpa using hab) (Ev.some (by simp [hab]))

theorem markIntS_l0 (q : List Int) : ∀ (p : List Int) (a : Int),p.length + q.length ≤ 1000000000000000 → -1000000000000000 ≤ a → a + q.length ≤ 1000000000000000000 → Ev (fun k => laws_markIntS.l0 k (p ++ q) a (p.length : Int)) (a + q.length,p ++ upI a q.length):=by
 induction q with
 | nil =>
  intro p a h0 h1 h2
  refine ⟨1,fun k hk => ?_⟩
  (try dsimp only)
  obtain ⟨k,rfl⟩ : ∃ m,k = m + 1:=⟨k - 1,by omega⟩
  simp only [laws_markIntS.l0]
  rw [if_neg (by simp)];simp [upI]
 | cons x q ih =>
  intro p a h0 h1 h2
  simp only [List.length_cons] at h0 h2
  obtain ⟨K,hK⟩:=ih (p ++ [a]) (a + 1) (by simp;omega) (by omega) (by omega)
  (try dsimp only at hK)
  refine ⟨K + 1,fun k hk => ?_⟩
  (try dsimp only)
  obtain ⟨k,rfl,hk'⟩:=within_lo hk
  simp only [laws_markIntS.l0]
  have hK':=hK k hk'
  simp only [List.append_assoc,List.cons_append,List.nil_append] at hK'
  have e1 : wrap64 ((p.length : Int) + 1) = ((p ++ [a]).length : Int):=by
   rw [wrap64_id (by omega) (by omega)];simp
  rw [if_pos (by simp;omega),if_pos (by omega),Int.toNat_natCast,set_mid,e1,wrap64_id (by omega) (by omega),hK']
  simp only [upI,List.length_cons]
  rw [show a + 1 + (q.length : Int) = a + ((q.length + 1 : Nat) : Int) from by omega]
theorem markIntS_ev (l : List Int) (a : Int) (h0 : l.length ≤ 1000000000000000) (h1 : -1000000000000000 ≤ a) (h2 : a + l.length ≤ 1000000000000000000) : Ev (fun k => laws_markIntS.f k l a) (a + l.length,upI a l.length) :=
 markIntS_l0 l [] a (by simpa using h0) h1 h2

/-- Rows filled with numbers that run on from a. -/
def upSS : Int → List (List Int) → List (List Int)
 | _,[] => []
 | a,x :: q => upI a x.length :: upSS (a + x.length) q
def totSS : List (List Int) → Int
 | [] => 0
 | x :: q => x.length + totSS q
theorem totSS_le : ∀ q : List (List Int),(∀ x ∈ q,x.length ≤ 1048576) → 0 ≤ totSS q ∧ totSS q ≤ 1048576 * (q.length : Int)
 | [],_ => by simp [totSS]
 | x :: q,h => by
  have h1:=h x (by simp)
  have h2:=totSS_le q (fun y hy => h y (by simp [hy]))
  simp only [totSS,List.length_cons];omega
theorem upSS_length : ∀ (a : Int) (q : List (List Int)),(upSS a q).length = q.length
 | _,[] => rfl
 | a,x :: q => by simp [upSS,upSS_length (a + x.length) q]
theorem markIntSS_l0 (q : List (List Int)) : ∀ (p : List (List Int)) (a : Int),p.length + q.length ≤ 1048576 → 0 ≤ a → a + 1048576 * q.length ≤ 100000000000000000 → (∀ x ∈ q,x.length ≤ 1048576) →
  Ev (fun k => laws_markIntSS.l0 k (p ++ q) a (p.length : Int)) (a + totSS q,p ++ upSS a q):=by
 induction q with
 | nil =>
  intro p a h0 h1 h2 h3
  refine Ev.succ ?_
  simp only [laws_markIntSS.l0]
  exact Ev.ite_neg (by simp) (Ev.some (by simp [totSS,upSS]))
 | cons x q ih =>
  intro p a h0 h1 h2 h3
  simp only [List.length_cons] at h0 h2
  have hx:=h3 x (by simp)
  have h:=ih (p ++ [upI a x.length]) (a + x.length) (by simp;omega) (by omega) (by omega) (fun y hy => h3 y (by simp [hy]))
  refine Ev.succ ?_
  simp only [laws_markIntSS.l0]
  refine Ev.ite_pos (by simp;omega) (Ev.ite_pos (by omega) ?_)
  rw [getD_mid]
  refine Ev.bind (markIntS_ev x a (by omega) (by omega) (by omega)) ?_
  rw [wrap_succ (by omega),Int.toNat_natCast,set_mid]
  simp only [List.append_assoc,List.cons_append,List.nil_append,List.length_append,List.length_singleton,List.length_cons,List.length_nil] at h
  refine Ev.cast h ?_
  simp only [totSS,upSS]
  rw [Int.add_assoc]
theorem markIntSS_ev (l : List (List Int)) (h0 : l.length ≤ 1048576) (h3 : ∀ x ∈ l,x.length ≤ 1048576) : Ev (fun k => laws_markIntSS.f k l 1) (1 + totSS l,upSS 1 l) :=
 markIntSS_l0 l [] 1 (by simpa using h0) (by omega) (by omega) h3
theorem markGraph_ev (l : List (List Int)) (h0 : l.length ≤ 1048576) (h3 : ∀ x ∈ l,x.length ≤ 1048576) : Ev (fun k => laws_markGraph.f k l 1) (1 + totSS l,upSS 1 l):=by
 unfold laws_markGraph.f
 exact Ev.bind (markIntSS_ev l h0 h3) (Ev.now _)

theorem heldIntS_l0 (n : Nat) : ∀ (p : List Int) (a : Int),p.length + n ≤ 1000000000000000 → -1000000000000000 ≤ a → a + n ≤ 1000000000000000000 → Ev (fun k => laws_heldIntS.l0 k (p ++ upI a n) a (p.length : Int)) (a + n):=by
 induction n with
 | zero =>
  intro p a h0 h1 h2
  refine ⟨1,fun k hk => ?_⟩
  (try dsimp only)
  obtain ⟨k,rfl⟩ : ∃ m,k = m + 1:=⟨k - 1,by omega⟩
  simp only [laws_heldIntS.l0]
  rw [if_neg (by simp [upI])];simp
 | succ n ih =>
  intro p a h0 h1 h2
  obtain ⟨K,hK⟩:=ih (p ++ [a]) (a + 1) (by simp;omega) (by omega) (by omega)
  (try dsimp only at hK)
  refine ⟨K + 1,fun k hk => ?_⟩
  (try dsimp only)
  obtain ⟨k,rfl,hk'⟩:=within_lo hk
  rw [laws_heldIntS.l0,show upI a (n + 1) = a :: upI (a + 1) n from rfl]
  have hK':=hK k hk'
  simp only [List.append_assoc,List.cons_append,List.nil_append] at hK'
  have e1 : wrap64 ((p.length : Int) + 1) = ((p ++ [a]).length : Int):=by
   rw [wrap64_id (by omega) (by omega)];simp
  rw [if_pos (by simp <;> omega),if_pos (by omega),rd_mid,if_pos rfl,e1,wrap64_id (by omega) (by omega),hK']
  congr 1;omega
theorem heldIntS_ev (n : Nat) (a : Int) (h0 : n ≤ 1000000000000000) (h1 : -1000000000000000 ≤ a) (h2 : a + n ≤ 1000000000000000000) : Ev (fun k => laws_heldIntS.f k (upI a n) a) (a + n) :=
 heldIntS_l0 n [] a (by simpa using h0) h1 h2

theorem findIdx_any {α : Type} (p : α → Bool) (l : List α) : decide ((match l.findIdx? p with | some j => (j : Int) | none => -1) ≥ 0) = l.any p:=by
 rw [Bool.eq_iff_iff,decide_eq_true_iff,List.any_eq_true]
 cases hf : l.findIdx? p with
 | none =>
  rw [List.findIdx?_eq_none_iff] at hf
  constructor
  ·intro h;simp only [ge_iff_le] at h;omega
  ·rintro ⟨x,hx,h⟩;rw [hf x hx] at h;simp at h
 | some j =>
  constructor
  ·intro _
   obtain ⟨hj,h1,_⟩:=List.findIdx?_eq_some_iff_getElem.mp hf
   exact ⟨l[j],List.getElem_mem hj,h1⟩
  ·intro _;simp only [ge_iff_le];omega
/-- A loop that looks for the first element that is so. -/
theorem Ev.index {α : Type} (l : List α) (F : Nat → Int → Option Int) (pr : α → Bool)
  (h0 : Ev (fun k => F k (l.length : Int)) (-1))
  (hs : ∀ p x q,l = p ++ x :: q → pr x = true → Ev (fun k => F k (p.length : Int)) (p.length : Int))
  (hn : ∀ p x q r,l = p ++ x :: q → pr x = false → Ev (fun k => F k ((p.length : Int) + 1)) r → Ev (fun k => F k (p.length : Int)) r) :
  Ev (fun k => F k 0) (match l.findIdx? pr with | some j => (j : Int) | none => -1):=by
 have main : ∀ (q p : List α),l = p ++ q → Ev (fun k => F k (p.length : Int)) (match q.findIdx? pr with | some j => ((p.length + j : Nat) : Int) | none => -1):=by
  intro q
  induction q with
  | nil => intro p e;rw [e,List.append_nil] at h0;exact h0
  | cons x q ih =>
   intro p e
   cases hx : pr x with
   | true =>
    have:=hs p x q e hx
    rw [List.findIdx?_cons,hx];simpa using this
   | false =>
    have:=ih (p ++ [x]) (by rw [e];simp)
    have e2 : ((p ++ [x]).length : Int) = (p.length : Int) + 1:=by simp
    rw [e2] at this
    have:=hn p x q _ e hx this
    rw [List.findIdx?_cons,hx]
    refine Ev.cast this ?_
    cases q.findIdx? pr with
    | none => rfl
    | some j => simp;omega
 have:=main l [] rfl
 refine Ev.cast this ?_
 cases l.findIdx? pr with
 | none => rfl
 | some j => simp

theorem l1Has_ev (l : List Int) (x : Int) (hl : l.length ≤ 1000000000000000) : Ev (fun k => spec_l1Has.f k l x) (decide (x ∈ l)):=by
 unfold spec_l1Has.f
 refine Ev.rangeI l (fun k (_ : Unit) i => spec_l1Has.l0 k x l (l.length : Int) i) (fun _ _ _ => decide (x ∈ l)) (fun _ p => x ∉ p) (fun _ hp => ?_) (fun _ p y q e hp ih => ?_) () (by simp)
 ·refine Ev.succ ?_
  simp only [spec_l1Has.l0]
  exact Ev.ite_neg (by omega) (Ev.some (decide_eq_false hp).symm)
 ·refine Ev.succ ?_
  simp only [spec_l1Has.l0]
  have hlen : p.length < l.length:=by rw [e];simp
  have hr : rd l (p.length : Int) = y:=by rw [e];exact rd_mid _ _ _
  refine Ev.ite_pos (by omega) (Ev.ite_pos (by omega) (Ev.ite_pos (by omega) ?_))
  rw [hr]
  by_cases h : y = x
  ·exact Ev.ite_pos h (Ev.some (by symm;rw [decide_eq_true_iff,e];simp [h]))
  ·refine Ev.ite_neg h ?_
   rw [wrap_succ (by omega)]
   exact ih () (by simp [hp];omega)
theorem contains_ev (l : List Int) (x : Int) (hl : l.length ≤ 1000000000000000) : Ev (fun k => slices_Contains_int_int.f k l x) (decide (x ∈ l)):=by
 unfold slices_Contains_int_int.f
 have h : Ev (fun k => slices_Index_int_int.f k l x) (match l.findIdx? (fun y => decide (x = y)) with | some j => (j : Int) | none => -1):=by
  unfold slices_Index_int_int.f
  refine Ev.index l (fun k i => slices_Index_int_int.l0 k l x (l.length : Int) i) (fun y => decide (x = y)) ?_ (fun p y q e hp => ?_) (fun p y q r e hp ih => ?_)
  ·refine Ev.succ ?_
   simp only [slices_Index_int_int.l0]
   exact Ev.ite_neg (by omega) (Ev.some rfl)
  all_goals
   have hlen : p.length < l.length:=by rw [e];simp
   have hr : rd l (p.length : Int) = y:=by rw [e];exact rd_mid _ _ _
   refine Ev.succ ?_
   simp only [slices_Index_int_int.l0]
   refine Ev.ite_pos (by omega) (Ev.ite_pos (by omega) (Ev.ite_pos (by omega) ?_))
   rw [hr]
  ·exact Ev.ite_pos (by simpa using hp) (Ev.some rfl)
  ·refine Ev.ite_neg (by simpa using hp) ?_
   rw [wrap_succ (by omega)]
   exact ih
 refine Ev.bind h (Ev.some ?_)
 rw [findIdx_any]
 rw [Bool.eq_iff_iff]
 simp

theorem within_eq (a b c : Int) : impl_within.f a b c = some (decide (b ≤ a ∧ a ≤ c)):=by
 unfold impl_within.f
 by_cases h : a ≥ b
 ·rw [if_pos h];simp [show b ≤ a from h]
 ·rw [if_neg h];simp;omega

theorem l1In_eq (a b c : Int) : spec_l1In.f a b c = some (decide (b ≤ a ∧ a ≤ c)):=by
 unfold spec_l1In.f
 by_cases h : a ≥ b
 ·rw [if_pos h];simp [show b ≤ a from h]
 ·rw [if_neg h];simp;omega

/-- Whether numbers rise from 0 below n, behind what came ahead of them. -/
def risesL (n : Int) : List Int → List Int → Bool
 | _,[] => true
 | p,x :: q => decide (0 ≤ x ∧ x ≤ n - 1) && ((match p.getLast? with | none => true | some y => decide (y < x)) && risesL n (p ++ [x]) q)
def goodGraphB (l : List (List Int)) : Bool:=decide (1 ≤ l.length ∧ l.length ≤ 12) && l.all (risesL l.length [])
theorem rd_before (p q : List Int) (x : Int) (h : 0 < p.length) : ∃ y,p.getLast? = some y ∧ rd (p ++ x :: q) ((p.length : Int) - 1) = y:=by
 cases hp : p.getLast? with
 | none => rw [List.getLast?_eq_none_iff] at hp;subst hp;simp at h
 | some y =>
  refine ⟨y,rfl,?_⟩
  unfold rd
  rw [show ((p.length : Int) - 1).toNat = p.length - 1 from by omega,List.getD_eq_getElem?_getD,List.getElem?_append_left (by omega)]
  rw [List.getLast?_eq_getElem?] at hp
  rw [hp];rfl
theorem risesIn_ev (l : List Int) (n : Int) (hl : l.length ≤ 1048576) (hn : 0 ≤ n) (hn' : n ≤ 1048576) : Ev (fun k => impl_risesIn.f k l n) (risesL n [] l):=by
 unfold impl_risesIn.f
 refine Ev.rangeP l (fun k (_ : Unit) i => impl_risesIn.l0 k l n l (l.length : Int) i) (fun _ p q => risesL n p q) (fun _ => ?_) (fun _ p x q e ih => ?_) ()
 ·refine Ev.succ ?_
  simp only [impl_risesIn.l0]
  exact Ev.ite_neg (by omega) (Ev.some rfl)
 ·refine Ev.succ ?_
  simp only [impl_risesIn.l0]
  have hlen : p.length < l.length:=by rw [e];simp
  have hr : rd l (p.length : Int) = x:=by rw [e];exact rd_mid _ _ _
  refine Ev.ite_pos (by omega) (Ev.ite_pos (by omega) (Ev.ite_pos (by omega) ?_))
  rw [hr,wrap64_id (by omega) (by omega),within_eq]
  simp only [Option.bind_some]
  rw [risesL]
  by_cases h1 : 0 ≤ x ∧ x ≤ n - 1
  ·refine Ev.ite_pos (by simpa using h1) ?_
   rw [decide_eq_true h1,Bool.true_and,wrap_succ (by omega)]
   by_cases h2 : 0 < p.length
   ·obtain ⟨y,hy,hry⟩:=rd_before p q x h2
    rw [← e] at hry
    rw [wrap64_id (by omega) (by omega),hry,hy]
    refine Ev.ite_pos (by omega) (Ev.ite_pos (by omega) (Ev.ite_pos (by omega) ?_))
    by_cases h3 : y < x
    ·refine Ev.ite_neg (by omega) ?_
     dsimp only
     rw [decide_eq_true h3,Bool.true_and]
     exact ih ()
    ·refine Ev.ite_pos (by omega) (Ev.some ?_)
     dsimp only
     rw [decide_eq_false h3,Bool.false_and]
   ·have hp : p = []:=List.eq_nil_of_length_eq_zero (by omega)
    subst hp
    refine Ev.ite_neg (by simp) ?_
    simpa using ih ()
  ·refine Ev.ite_neg (by simpa using h1) (Ev.some ?_)
   rw [decide_eq_false h1,Bool.false_and]
theorem goodIx_ev (l : List (List Int)) (n : Int) (hn : 0 ≤ n) (hn' : n ≤ 1048576) (hl : l.length ≤ 1048576) (hx : ∀ x ∈ l,x.length ≤ 1048576) :
  Ev (fun k => impl_GoodGraph_ix.l0 k n l 0) (match l.findIdx? (fun x => !risesL n [] x) with | some j => (j : Int) | none => -1):=by
 refine Ev.index l (fun k i => impl_GoodGraph_ix.l0 k n l i) (fun x => !risesL n [] x) ?_ (fun p x q e hp => ?_) (fun p x q r e hp ih => ?_)
 ·refine Ev.succ ?_
  simp only [impl_GoodGraph_ix.l0]
  exact Ev.ite_neg (by omega) (Ev.some rfl)
 all_goals
  have hlen : p.length < l.length:=by rw [e];simp
  refine Ev.succ ?_
  simp only [impl_GoodGraph_ix.l0]
  refine Ev.ite_pos (by omega) (Ev.ite_pos (by omega) ?_)
  have hg : l.getD (p.length : Int).toNat [] = x:=by rw [e];exact getD_mid _ _ _ _
  rw [hg]
  unfold impl_GoodGraph_1.f
  refine Ev.bind (Ev.bind (risesIn_ev x n (hx x (by rw [e];simp)) hn hn') (Ev.some rfl)) ?_
  rw [hp]
 ·exact Ev.ite_pos rfl (Ev.some rfl)
 ·refine Ev.ite_neg (by simp) ?_
  rw [wrap_succ (by omega)]
  exact ih
theorem iGoodGraph_ev (l : List (List Int)) (hl : l.length ≤ 1048576) (hx : ∀ x ∈ l,x.length ≤ 1048576) : Ev (fun k => impl_GoodGraph.f k l) (goodGraphB l):=by
 unfold impl_GoodGraph.f goodGraphB
 rw [within_eq]
 simp only [Option.bind_some]
 by_cases h : 1 ≤ l.length ∧ l.length ≤ 12
 ·refine Ev.ite_pos (by simp;omega) (Ev.bind (goodIx_ev l l.length (by omega) (by omega) hl hx) (Ev.some ?_))
  rw [findIdx_any,decide_eq_true h,Bool.true_and,List.not_any_eq_all_not]
  simp
 ·refine Ev.ite_neg (by simp;omega) (Ev.some ?_)
  rw [decide_eq_false h,Bool.false_and]
theorem sGoodRow_ev (l : List (List Int)) (n : Int) (g : List (List Int)) (m j : Int) (hn : 0 ≤ n) (hn' : n ≤ 1048576) (r : Bool) (x : List Int) (hl : x.length ≤ 1048576)
  (hnext : Ev (fun k => spec_GoodGraph.l0 k n g m (wrap64 (j + 1))) r) :
  Ev (fun k => spec_GoodGraph.l1 k n x g m j x (x.length : Int) 0) (risesL n [] x && r):=by
 refine Ev.rangeP x (fun k (_ : Unit) i => spec_GoodGraph.l1 k n x g m j x (x.length : Int) i) (fun _ p q => risesL n p q && r) (fun _ => ?_) (fun _ p y q e ih => ?_) ()
 ·refine Ev.succ ?_
  simp only [spec_GoodGraph.l1]
  exact Ev.ite_neg (by omega) hnext
 ·refine Ev.succ ?_
  simp only [spec_GoodGraph.l1]
  have hlen : p.length < x.length:=by rw [e];simp
  have hr : rd x (p.length : Int) = y:=by rw [e];exact rd_mid _ _ _
  refine Ev.ite_pos (by omega) (Ev.ite_pos (by omega) (Ev.ite_pos (by omega) ?_))
  rw [hr,risesL]
  by_cases h1 : y < 0
  ·refine Ev.ite_pos h1 (Ev.some ?_)
   rw [decide_eq_false (by omega)];rfl
  refine Ev.ite_neg h1 ?_
  by_cases h1' : y ≥ n
  ·refine Ev.ite_pos h1' (Ev.some ?_)
   rw [decide_eq_false (by omega)];rfl
  refine Ev.ite_neg h1' ?_
  rw [decide_eq_true (by omega),Bool.true_and,wrap_succ (by omega)]
  by_cases h2 : 0 < p.length
  ·obtain ⟨z,hz,hrz⟩:=rd_before p q y h2
   rw [← e] at hrz
   rw [wrap64_id (by omega) (by omega),hrz,hz]
   refine Ev.ite_pos (by omega) (Ev.ite_pos (by omega) (Ev.ite_pos (by omega) ?_))
   by_cases h3 : z < y
   ·refine Ev.ite_neg (by omega) ?_
    dsimp only
    rw [decide_eq_true h3,Bool.true_and]
    exact ih ()
   ·refine Ev.ite_pos (by omega) (Ev.some ?_)
    dsimp only
    rw [decide_eq_false h3];rfl
  ·have hp : p = []:=List.eq_nil_of_length_eq_zero (by omega)
   subst hp
   refine Ev.ite_neg (by simp) ?_
   simpa using ih ()
theorem sGoodGraph_ev (l : List (List Int)) (hl : l.length ≤ 1048576) (hx : ∀ x ∈ l,x.length ≤ 1048576) : Ev (fun k => spec_GoodGraph.f k l) (goodGraphB l):=by
 unfold spec_GoodGraph.f goodGraphB
 have:=Ev.rangeP l (fun k (_ : Unit) i => spec_GoodGraph.l0 k (l.length : Int) l (l.length : Int) i) (fun _ _ q => q.all (risesL l.length []) && decide (1 ≤ l.length ∧ l.length ≤ 12)) (fun _ => ?_) (fun _ p x q e ih => ?_) ()
 ·rw [Bool.and_comm];exact this
 ·refine Ev.succ ?_
  simp only [spec_GoodGraph.l0]
  refine Ev.ite_neg (by omega) ?_
  rw [l1In_eq]
  simp only [Option.bind_some]
  refine Ev.some ?_
  rw [List.all_nil,Bool.true_and,Bool.eq_iff_iff];simp only [decide_eq_true_eq];omega
 ·refine Ev.succ ?_
  simp only [spec_GoodGraph.l0]
  have hlen : p.length < l.length:=by rw [e];simp
  have hrd : rd_L1 l (p.length : Int) = x:=by unfold rd_L1;rw [e];exact getD_mid _ _ _ _
  refine Ev.ite_pos (by omega) (Ev.ite_pos (by omega) (Ev.ite_pos (by omega) ?_))
  rw [hrd]
  have h2:=sGoodRow_ev l l.length l l.length p.length (by omega) (by omega) _ x (hx x (by rw [e];simp)) (by rw [wrap_succ (by omega)];exact ih ())
  rw [List.all_cons,Bool.and_assoc]
  exact h2

/-- A graph whose goals lie in it. -/
structure GW (g : List (List Int)) : Prop where
 lo : 1 ≤ g.length
 hi : g.length ≤ 12
 row : ∀ r ∈ g,r.length ≤ 1048576
 inn : ∀ r ∈ g,∀ x ∈ r,0 ≤ x ∧ x < g.length
/-- A graph that is well made. -/
structure GG (g : List (List Int)) : Prop extends GW g where
 rise : ∀ r ∈ g,risesL g.length [] r = true
theorem risesL_in (n : Int) : ∀ (q p : List Int),risesL n p q = true → ∀ x ∈ q,0 ≤ x ∧ x < n
 | [],_,_,_,hx => by simp at hx
 | y :: q,p,h,x,hx => by
  rw [risesL,Bool.and_eq_true,Bool.and_eq_true,decide_eq_true_iff] at h
  rcases List.mem_cons.1 hx with rfl | hx
  ·omega
  ·exact risesL_in n q _ h.2.2 x hx
theorem goodGraph_GG {g : List (List Int)} (h : goodGraphB g = true) (hx : ∀ x ∈ g,x.length ≤ 1048576) : GG g:=by
 unfold goodGraphB at h
 rw [Bool.and_eq_true,decide_eq_true_iff,List.all_eq_true] at h
 exact ⟨⟨h.1.1,h.1.2,hx,fun r hr => risesL_in _ _ _ (h.2 r hr)⟩,fun r hr => h.2 r hr⟩
/-- Row x of g. -/
def rowG (g : List (List Int)) (x : Int) : List Int:=g.getD x.toNat []
theorem rowG_mem {g : List (List Int)} {x : Int} (h0 : 0 ≤ x) (h1 : x < g.length) : rowG g x ∈ g:=by
 unfold rowG
 rw [List.getD_eq_getElem?_getD,List.getElem?_eq_getElem (by omega)]
 exact List.getElem_mem _

def passRow (av : List Int) : List Int → List Int → List Int
 | s,[] => s
 | s,x :: q => passRow av (if x ∈ av ∨ x ∈ s then s else s ++ [x]) q
def walkG (g : List (List Int)) (av : List Int) : Nat → List Int → Nat → List Int
 | 0,s,_ => s
 | f + 1,s,i => if i < s.length then walkG g av f (passRow av s (rowG g (rd s i))) (i + 1) else s
/-- What is reached from 0 by ways that leave out av. -/
def leftG (g : List (List Int)) (av : List Int) : List Int:=if (0 : Int) ∈ av then [] else walkG g av (g.length + 1) [0] 0
theorem passRow_ok {n : Nat} (av : List Int) : ∀ (q s : List Int),OkS n s → (∀ x ∈ q,0 ≤ x ∧ x < n) → OkS n (passRow av s q) ∧ s.length ≤ (passRow av s q).length
 | [],s,h,_ => ⟨h,Nat.le_refl _⟩
 | x :: q,s,h,hq => by
  rw [passRow]
  have hx:=hq x (by simp)
  by_cases hc : x ∈ av ∨ x ∈ s
  ·rw [if_pos hc];exact passRow_ok av q s h (fun y hy => hq y (by simp [hy]))
  ·rw [if_neg hc]
   have:=passRow_ok av q (s ++ [x]) (h.snoc (fun e => hc (.inr e)) hx.1 hx.2) (fun y hy => hq y (by simp [hy]))
   simp only [List.length_append,List.length_singleton] at this
   exact ⟨this.1,by omega⟩
theorem walkG_ok {g : List (List Int)} (hg : GW g) (av : List Int) : ∀ (f : Nat) (s : List Int) (i : Nat),OkS g.length s → OkS g.length (walkG g av f s i)
 | 0,s,i,h => h
 | f + 1,s,i,h => by
  rw [walkG]
  by_cases hi : i < s.length
  ·rw [if_pos hi]
   have hm:=h.2 _ (rd_mem hi)
   exact walkG_ok hg av f _ _ (passRow_ok av _ _ h (hg.inn _ (rowG_mem hm.1 hm.2))).1
  ·rw [if_neg hi];exact h
theorem leftG_ok {g : List (List Int)} (hg : GG g) (av : List Int) : OkS g.length (leftG g av):=by
 have:=hg.lo
 unfold leftG
 split
 ·exact OkS.nil _
 ·exact walkG_ok hg.toGW av _ _ _ ⟨by simp,fun x hx => by rw [List.mem_singleton] at hx;omega⟩
theorem sPass_ev {g : List (List Int)} (hg : GG g) (x1 : Int) (av : List Int) (hav : ∀ x,0 ≤ x → (x = x1 ↔ x ∈ av)) (row : List Int) (hrow : row.length ≤ 1048576) (hin : ∀ x ∈ row,0 ≤ x ∧ x < g.length) (s : List Int) (hs : OkS g.length s) (i : Int) {r : List Int}
  (hnext : OkS g.length (passRow av s row) → Ev (fun k => spec_l7Without.l0 k x1 (passRow av s row) (wrap64 (i + 1)) g) r) : Ev (fun k => spec_l7Without.l1 k x1 s i row (row.length : Int) 0 g) r:=by
 have main:=Ev.rangeI row (fun k s j => spec_l7Without.l1 k x1 s i row (row.length : Int) j g) (fun b p q => r) (fun b p => OkS g.length b ∧ ∀ q,row = p ++ q → passRow av s row = passRow av b q) (fun b hb => ?_) (fun b p x q e hb ih => ?_) s ⟨hs,fun q e => by rw [e];rfl⟩
 ·exact main
 ·refine Ev.succ ?_
  simp only [spec_l7Without.l1]
  have:=hb.2 [] (by simp)
  rw [passRow] at this
  rw [← this] at hb ⊢
  exact Ev.ite_neg (by omega) (hnext hb.1)
 ·refine Ev.succ ?_
  simp only [spec_l7Without.l1]
  have hlen : p.length < row.length:=by rw [e];simp
  have hr : rd row (p.length : Int) = x:=by rw [e];exact rd_mid _ _ _
  have hx:=hin x (by rw [e];simp)
  have hle:=hb.1.le
  have hhi:=hg.hi
  refine Ev.ite_pos (by omega) (Ev.ite_pos (by omega) (Ev.ite_pos (by omega) ?_))
  rw [hr,wrap_succ (by omega)]
  have he:=hb.2 (x :: q) e
  rw [passRow] at he
  by_cases h1 : x = x1
  ·refine Ev.ite_pos h1 (ih b ⟨hb.1,fun q' e' => ?_⟩)
   rw [he,if_pos (.inl ((hav x hx.1).1 h1))]
   rw [e] at e';simp at e';rw [e']
  ·refine Ev.ite_neg h1 (Ev.bind (l1Has_ev b x (by omega)) ?_)
   by_cases h2 : x ∈ b
   ·refine Ev.ite_pos (by simpa using h2) (ih b ⟨hb.1,fun q' e' => ?_⟩)
    rw [he,if_pos (.inr h2)]
    rw [e] at e';simp at e';rw [e']
   ·have h3 : ¬ (x ∈ av ∨ x ∈ b):=fun h => h.elim (fun h => h1 ((hav x hx.1).2 h)) h2
    refine Ev.ite_neg (by simpa using h2) (Ev.ite_pos (by omega) (ih (b ++ [x]) ⟨hb.1.snoc h2 hx.1 hx.2,fun q' e' => ?_⟩))
    rw [he,if_neg h3]
    rw [e] at e';simp at e';rw [e']
theorem sWithout_l0 {g : List (List Int)} (hg : GG g) (x1 : Int) (av : List Int) (hav : ∀ x,0 ≤ x → (x = x1 ↔ x ∈ av)) : ∀ (f : Nat) (s : List Int) (i : Nat),OkS g.length s → i + f = g.length + 1 → Ev (fun k => spec_l7Without.l0 k x1 s (i : Int) g) (walkG g av f s i)
 | 0,s,i,h,hi => by
  have:=h.le
  refine Ev.succ ?_
  simp only [spec_l7Without.l0]
  exact Ev.ite_neg (by omega) (Ev.some rfl)
 | f + 1,s,i,h,hi => by
  have:=h.le
  have hhi:=hg.hi
  refine Ev.succ ?_
  simp only [spec_l7Without.l0]
  rw [walkG]
  by_cases hc : i < s.length
  ·rw [if_pos hc]
   have hm:=h.2 _ (rd_mem hc)
   have hr:=rowG_mem hm.1 hm.2
   refine Ev.ite_pos (by omega) (Ev.ite_pos (by omega) (Ev.ite_pos hm.1 (Ev.ite_pos hm.2 ?_)))
   refine sPass_ev hg x1 av hav (rowG g (rd s i)) (hg.row _ hr) (hg.inn _ hr) s h i fun h' => ?_
   rw [wrap_succ (by omega)]
   exact sWithout_l0 hg x1 av hav f _ (i + 1) h' (by omega)
  ·rw [if_neg hc]
   exact Ev.ite_neg (by omega) (Ev.some rfl)
theorem sWithout_ev {g : List (List Int)} (hg : GG g) (x1 : Int) (av : List Int) (hav : ∀ x,0 ≤ x → (x = x1 ↔ x ∈ av)) : Ev (fun k => spec_l7Without.f k g x1) (leftG g av):=by
 have hlo:=hg.lo
 unfold spec_l7Without.f leftG
 by_cases h : x1 = 0
 ·refine Ev.ite_pos h (Ev.some ?_)
  rw [if_pos ((hav 0 (by omega)).1 h.symm)]
 ·rw [if_neg (fun e => h ((hav 0 (by omega)).2 e).symm)]
  exact Ev.ite_neg h (sWithout_l0 hg x1 av hav _ [0] 0 ⟨by simp,fun x hx => by rw [List.mem_singleton] at hx;omega⟩ (by omega))
/-- The marks of what lies in s. -/
def boolsG (n : Nat) (s : List Int) : List Bool:=tab n (fun x => decide (x ∈ s))
theorem boolsG_rd {n : Nat} (s : List Int) {x : Int} (h0 : 0 ≤ x) (h1 : x < n) : rdOf false (boolsG n s) x = decide (x ∈ s):=tab_getD _ h0 h1 _
theorem boolsG_snoc (n : Nat) (s : List Int) {x : Int} (h0 : 0 ≤ x) : (boolsG n s).set x.toNat true = boolsG n (s ++ [x]):=by
 unfold boolsG
 rw [tab_set _ h0]
 refine tab_congr fun y _ _ => ?_
 by_cases h : y = x
 ·rw [if_pos h];simp [h]
 ·rw [if_neg h];simp [h]
theorem iPass_ev {g : List (List Int)} (hg : GW g) (av : List Int) (hl : av.length ≤ 1000) (row : List Int) (hrow : row.length ≤ 1048576) (hin : ∀ x ∈ row,0 ≤ x ∧ x < g.length) (s : List Int) (hs : OkS g.length s) (i : Nat) (hi : i < s.length) {r : List Bool}
  (hnext : OkS g.length (passRow av s row) → s.length ≤ (passRow av s row).length → Ev (fun k => impl_reach.l0 k g av (boolsG g.length (passRow av s row)) ((passRow av s row).drop (i + 1))) r) :
  Ev (fun k => impl_reach.l1 k g av (boolsG g.length s) (s.drop i) row (row.length : Int) 0) r:=by
 have main:=Ev.rangeI row (fun k b j => impl_reach.l1 k g av (boolsG g.length b) (b.drop i) row (row.length : Int) j) (fun b p q => r) (fun b p => OkS g.length b ∧ s.length ≤ b.length ∧ ∀ q,row = p ++ q → passRow av s row = passRow av b q) (fun b hb => ?_) (fun b p x q e hb ih => ?_) s ⟨hs,Nat.le_refl _,fun q e => by rw [e];rfl⟩
 ·exact main
 ·refine Ev.succ ?_
  simp only [impl_reach.l1]
  have:=hb.2.2 [] (by simp)
  rw [passRow] at this
  rw [← this] at hb ⊢
  refine Ev.ite_neg (by omega) (Ev.ite_pos (by rw [List.length_drop];omega) ?_)
  rw [List.drop_drop]
  exact hnext hb.1 hb.2.1
 ·refine Ev.succ ?_
  simp only [impl_reach.l1]
  have hlen : p.length < row.length:=by rw [e];simp
  have hr : rd row (p.length : Int) = x:=by rw [e];exact rd_mid _ _ _
  have hx:=hin x (by rw [e];simp)
  have hle:=hb.1.le
  have hhi:=hg.hi
  refine Ev.ite_pos (by omega) (Ev.ite_pos (by omega) (Ev.ite_pos (by omega) ?_))
  rw [hr,wrap_succ (by omega)]
  have he:=hb.2.2 (x :: q) e
  rw [passRow] at he
  refine Ev.ite_pos hx.1 (Ev.ite_pos (by unfold boolsG;rw [tab_length];exact hx.2) ?_)
  rw [boolsG_rd b hx.1 hx.2]
  by_cases h2 : x ∈ b
  ·refine Ev.ite_pos (by simpa using h2) (ih b ⟨hb.1,hb.2.1,fun q' e' => ?_⟩)
   rw [he,if_pos (.inr h2)]
   rw [e] at e';simp at e';rw [e']
  ·refine Ev.ite_neg (by simpa using h2) (Ev.bind (contains_ev av x (by omega)) ?_)
   by_cases h1 : x ∈ av
   ·refine Ev.ite_pos (by simpa using h1) (ih b ⟨hb.1,hb.2.1,fun q' e' => ?_⟩)
    rw [he,if_pos (.inl h1)]
    rw [e] at e';simp at e';rw [e']
   ·have h3 : ¬ (x ∈ av ∨ x ∈ b):=fun h => h.elim h1 h2
    have h4:=ih (b ++ [x]) ⟨hb.1.snoc h2 hx.1 hx.2,by simp;omega,fun q' e' => by
     rw [he,if_neg h3]
     rw [e] at e';simp at e';rw [e']⟩
    refine Ev.ite_neg (by simpa using h1) (Ev.ite_pos (by rw [List.length_drop];omega) ?_)
    rw [boolsG_snoc _ _ hx.1]
    rw [List.drop_append_of_le_length (by omega)] at h4
    exact h4
theorem iReach_l0 {g : List (List Int)} (hg : GW g) (av : List Int) (hl : av.length ≤ 1000) : ∀ (f : Nat) (s : List Int) (i : Nat),OkS g.length s → i ≤ s.length → i + f = g.length + 1 → Ev (fun k => impl_reach.l0 k g av (boolsG g.length s) (s.drop i)) (boolsG g.length (walkG g av f s i))
 | 0,s,i,h,hle,hi => by
  have:=h.le
  omega
 | f + 1,s,i,h,hle,hi => by
  have:=h.le
  have hhi:=hg.hi
  refine Ev.succ ?_
  simp only [impl_reach.l0]
  rw [walkG]
  by_cases hc : i < s.length
  ·rw [if_pos hc]
   have hm:=h.2 _ (rd_mem hc)
   have hr:=rowG_mem hm.1 hm.2
   have hd : rd (s.drop i) 0 = rd s i:=by
    unfold rd
    simp [List.getD_eq_getElem?_getD,List.getElem?_drop]
   rw [hd]
   refine Ev.ite_pos (by rw [List.length_drop];omega) (Ev.ite_pos (by rw [List.length_drop];omega) (Ev.ite_pos hm.1 (Ev.ite_pos hm.2 ?_)))
   exact iPass_ev hg av hl (rowG g (rd s i)) (hg.row _ hr) (hg.inn _ hr) s h i hc fun h' hle' => iReach_l0 hg av hl f _ (i + 1) h' (by omega) (by omega)
  ·rw [if_neg hc]
   exact Ev.ite_neg (by rw [List.length_drop];omega) (Ev.some rfl)
theorem boolsG_nil (n : Nat) : List.replicate n false = boolsG n []:=by
 unfold boolsG
 rw [tab_rep]
 exact tab_congr fun x _ _ => by simp
/-- From any start, nothing left out. -/
theorem iReach1_ev {g : List (List Int)} (hg : GW g) (a : Int) (h0 : 0 ≤ a) (h1 : a < g.length) : Ev (fun k => impl_reach.f k g a []) (boolsG g.length (walkG g [] (g.length + 1) [a] 0)):=by
 have hhi:=hg.hi
 unfold impl_reach.f
 refine Ev.ite_pos (by omega) (Ev.ite_pos (by omega) (Ev.bind (Ev.now _) (Ev.bind (contains_ev [] a (by simp)) ?_)))
 rw [Int.toNat_natCast,boolsG_nil]
 refine Ev.ite_neg (by simp) (Ev.ite_pos (by omega) (Ev.ite_pos (by unfold boolsG;rw [tab_length];omega) ?_))
 rw [boolsG_snoc _ _ (by omega)]
 exact iReach_l0 hg [] (by simp) _ [a] 0 ⟨by simp,fun x hx => by rw [List.mem_singleton] at hx;omega⟩ (by simp) (by omega)
theorem iReach_ev {g : List (List Int)} (hg : GG g) (av : List Int) (hl : av.length ≤ 1000) : Ev (fun k => impl_reach.f k g 0 av) (boolsG g.length (leftG g av)):=by
 have hlo:=hg.lo
 have hhi:=hg.hi
 unfold impl_reach.f leftG
 refine Ev.ite_pos (by omega) (Ev.ite_pos (by omega) (Ev.bind (Ev.now _) (Ev.bind (contains_ev av 0 (by omega)) ?_)))
 rw [Int.toNat_natCast]
 rw [boolsG_nil]
 by_cases h : (0 : Int) ∈ av
 ·rw [if_pos h]
  exact Ev.ite_pos (by simpa using h) (Ev.some rfl)
 ·rw [if_neg h]
  refine Ev.ite_neg (by simpa using h) (Ev.ite_pos (by omega) (Ev.ite_pos (by unfold boolsG;rw [tab_length];omega) ?_))
  rw [boolsG_snoc _ _ (by omega)]
  exact iReach_l0 hg.toGW av hl _ [0] 0 ⟨by simp,fun x hx => by rw [List.mem_singleton] at hx;omega⟩ (by simp) (by omega)

/-- Whether d dominates b. -/
def domB (g : List (List Int)) (d b : Int) : Bool:=decide (d ∈ leftG g []) && (decide (b ∈ leftG g []) && !decide (b ∈ leftG g [d]))
/-- Who dominates b, of those below m. -/
def domL (g : List (List Int)) (m : Nat) (b : Int) : List Int:=(upto m).filter (fun d => domB g d b)
theorem domL_lt {g : List (List Int)} {m : Nat} {b x : Int} (h : x ∈ domL g m b) : 0 ≤ x ∧ x < m:=upto_mem.1 (List.mem_filter.1 h).1
theorem domL_len (g : List (List Int)) (m : Nat) (b : Int) : (domL g m b).length ≤ m:=by
 have:=List.length_filter_le (fun d => domB g d b) (upto m)
 rw [upto_length] at this
 exact this
theorem domL_mem {g : List (List Int)} {m : Nat} {b x : Int} (h0 : 0 ≤ x) (h1 : x < m) : decide (x ∈ domL g m b) = domB g x b:=by
 rw [Bool.eq_iff_iff,decide_eq_true_iff,domL,List.mem_filter,upto_mem]
 exact ⟨fun h => h.2,fun h => ⟨⟨h0,h1⟩,h⟩⟩
theorem l1Put_last (l : List Int) (x : Int) (hl : l.length ≤ 1000) (h : ∀ y ∈ l,y < x) : Ev (fun k => spec_l1Put.f k l x) (l ++ [x]):=by
 unfold spec_l1Put.f
 refine Ev.rangeP l (fun k (_ : Unit) i => spec_l1Put.l0 k l x i) (fun _ _ _ => l ++ [x]) (fun _ => ?_) (fun _ p y q e ih => ?_) ()
 ·refine Ev.succ ?_
  simp only [spec_l1Put.l0]
  refine Ev.ite_neg (by omega) (Ev.ite_pos (by omega) (Ev.ite_pos (by omega) ?_))
  rw [Int.toNat_natCast,List.take_length,List.drop_length]
  refine Ev.bind (Ev.now _) (Ev.ite_pos (by simp;omega) (Ev.bind (Ev.now _) (Ev.ite_pos (by simp;omega) (Ev.bind (Ev.now _) (Ev.bind (Ev.now _) (Ev.ite_pos (by simp;omega) (Ev.some ?_)))))))
  simp
 ·refine Ev.succ ?_
  simp only [spec_l1Put.l0]
  have hlen : p.length < l.length:=by rw [e];simp
  have hr : rd l (p.length : Int) = y:=by rw [e];exact rd_mid _ _ _
  have hy:=h y (by rw [e];simp)
  refine Ev.ite_pos (by omega) (Ev.ite_pos (by omega) (Ev.ite_pos (by omega) ?_))
  rw [wrap_succ (by omega)]
  exact ih ()
/-- One round of the outer loop of the reference's. -/
theorem sDomRow_ev {g : List (List Int)} (hg : GG g) (m : Nat) (hm : m < g.length) {r : List (List Int)}
  (hnext : Ev (fun k => spec_l7Dominators.l0 k g (leftG g []) (tab g.length (domL g (m + 1))) ((m : Int) + 1)) r) :
  Ev (fun k => spec_l7Dominators.l1 k g (leftG g []) (leftG g [(m : Int)]) (tab g.length (domL g m)) (m : Int) 0) r:=by
 have hok:=leftG_ok hg []
 have hle:=hok.le
 have hle2:=(leftG_ok hg [(m : Int)]).le
 have hhi:=hg.hi
 have main:=Ev.rangeI (leftG g []) (fun k x i => spec_l7Dominators.l1 k g (leftG g []) (leftG g [(m : Int)]) x (m : Int) i) (fun _ _ _ => r) (fun x p => x = tab g.length (fun b : Int => domL g m b ++ (if b ∈ p ∧ domB g m b = true then [(m : Int)] else []))) (fun x hx => ?_) (fun x p y q e hx ih => ?_) (tab g.length (domL g m)) (tab_congr fun b _ _ => by simp)
 ·exact main
 ·refine Ev.succ ?_
  simp only [spec_l7Dominators.l1]
  refine Ev.ite_neg (by omega) ?_
  rw [wrap_succ (by omega),hx]
  refine Ev.cast ?_ rfl
  have e : tab g.length (fun b : Int => domL g m b ++ (if b ∈ leftG g [] ∧ domB g m b = true then [(m : Int)] else [])) = tab g.length (domL g (m + 1)):=by
   refine tab_congr fun b _ _ => ?_
   unfold domL
   rw [filter_upto_succ]
   congr 1
   by_cases h : domB g m b = true
   ·have : b ∈ leftG g []:=by
     unfold domB at h
     simp only [Bool.and_eq_true,decide_eq_true_iff] at h
     exact h.2.1
    rw [if_pos h,if_pos ⟨this,h⟩]
   ·rw [if_neg h,if_neg (fun h' => h h'.2)]
  rw [e]
  exact hnext
 ·refine Ev.succ ?_
  simp only [spec_l7Dominators.l1]
  have hlen : p.length < (leftG g []).length:=by rw [e];simp
  have hr : rd (leftG g []) (p.length : Int) = y:=by rw [e];exact rd_mid _ _ _
  have hy : y ∈ leftG g []:=by rw [e];simp
  have hyn:=hok.2 y hy
  have hyp : y ∉ p:=by
   have:=hok.1
   rw [e,List.nodup_append] at this
   exact fun h => this.2.2 y h y (by simp) rfl
  have same : domB g m y = false → x = tab g.length (fun b : Int => domL g m b ++ (if b ∈ p ++ [y] ∧ domB g m b = true then [(m : Int)] else [])):=fun hf => by
   rw [hx]
   refine tab_congr fun b _ _ => ?_
   by_cases hb : b = y
   ·subst hb;simp [hf]
   ·simp [hb]
  refine Ev.ite_pos (by omega) (Ev.ite_pos (by omega) (Ev.bind (l1Has_ev _ _ (by omega)) ?_))
  rw [hr,wrap_succ (by omega)]
  by_cases h1 : (m : Int) ∈ leftG g []
  ·refine Ev.ite_pos (by simpa using h1) (Ev.bind (l1Has_ev _ _ (by omega)) ?_)
   by_cases h2 : y ∈ leftG g [(m : Int)]
   ·refine Ev.ite_pos (by simpa using h2) (ih x (same (by unfold domB;simp [h2])))
   ·have hd : domB g m y = true:=by unfold domB;simp [h1,h2,hy]
    refine Ev.ite_neg (by simpa using h2) (Ev.ite_pos hyn.1 (Ev.ite_pos (by rw [hx,tab_length];exact hyn.2) ?_))
    have hg0 : x.getD y.toNat [] = domL g m y:=by
     rw [hx,tab_getD _ hyn.1 hyn.2]
     simp [hyp]
    rw [hg0]
    refine Ev.bind (l1Put_last _ _ (by have:=domL_len g m y;omega) (fun z hz => (domL_lt hz).2)) (ih _ ?_)
    rw [hx,tab_set _ hyn.1]
    refine tab_congr fun b _ _ => ?_
    by_cases hb : b = y
    ·subst hb;simp [hd]
    ·simp [hb]
  ·refine Ev.ite_neg (by simpa using h1) (ih x (same (by unfold domB;simp [h1])))
theorem sDoms_ev {g : List (List Int)} (hg : GG g) : Ev (fun k => spec_l7Dominators.f k g) (tab g.length (domL g g.length)):=by
 have hhi:=hg.hi
 unfold spec_l7Dominators.f
 refine Ev.ite_pos (by omega) (Ev.bind (sWithout_ev hg (-1) [] (fun x h => by simp;omega)) ?_)
 have e0 : List.replicate g.length ([] : List Int) = tab g.length (domL g 0):=by rw [tab_rep];exact tab_congr fun x _ _ => by simp [domL,upto_zero]
 rw [e0]
 refine Ev.count g.length (fun k x d => spec_l7Dominators.l0 k g (leftG g []) x d) (fun m => tab g.length (domL g m)) _ ?_ (fun m hm ih => ?_)
 ·refine Ev.succ ?_
  simp only [spec_l7Dominators.l0]
  exact Ev.ite_neg (by omega) (Ev.some rfl)
 ·refine Ev.succ ?_
  simp only [spec_l7Dominators.l0]
  refine Ev.ite_pos (by omega) (Ev.bind (sWithout_ev hg (m : Int) [(m : Int)] (fun x h => by simp)) ?_)
  exact sDomRow_ev hg m hm ih
/-- The program's marks, of those below m. -/
def domT (g : List (List Int)) (m : Nat) (b : Int) : List Bool:=tab g.length (fun d => decide (d < m) && domB g d b)
theorem iDomRow_ev {g : List (List Int)} (hg : GG g) (m : Nat) (hm : m < g.length) (h1 : (m : Int) ∈ leftG g []) {r : List (List Bool)}
  (hnext : Ev (fun k => impl_dominators.l1 k g (boolsG g.length (leftG g [])) (tab g.length (domT g (m + 1))) ((m : Int) + 1)) r) :
  Ev (fun k => impl_dominators.l2 k g (boolsG g.length (leftG g [])) (boolsG g.length (leftG g [(m : Int)])) (tab g.length (domT g m)) (m : Int) 0) r:=by
 have hhi:=hg.hi
 have e0 : tab g.length (domT g m) = tab g.length (fun b : Int => tab g.length (fun d : Int => (decide (d < m) || (decide (d = m) && decide (b < ((0 : Nat) : Int)))) && domB g d b)):=by
  refine tab_congr fun b h _ => tab_congr fun d _ _ => ?_
  have : decide (b < ((0 : Nat) : Int)) = false:=decide_eq_false (by omega)
  rw [this];simp
 rw [e0]
 refine Ev.count g.length (fun k x b => impl_dominators.l2 k g (boolsG g.length (leftG g [])) (boolsG g.length (leftG g [(m : Int)])) x (m : Int) b) (fun j => tab g.length (fun b : Int => tab g.length (fun d : Int => (decide (d < m) || (decide (d = m) && decide (b < (j : Int)))) && domB g d b))) _ ?_ (fun j hj ih => ?_)
 ·refine Ev.succ ?_
  simp only [impl_dominators.l2]
  refine Ev.ite_neg (by omega) ?_
  rw [wrap_succ (by omega)]
  refine Ev.cast ?_ rfl
  rw [show tab g.length (fun b : Int => tab g.length (fun d : Int => (decide (d < m) || (decide (d = m) && decide (b < (g.length : Int)))) && domB g d b)) = tab g.length (domT g (m + 1)) from ?_]
  ·exact hnext
  ·refine tab_congr fun b _ hb => tab_congr fun d _ _ => ?_
   have h2 : decide (b < (g.length : Int)) = true:=decide_eq_true hb
   rw [h2,Bool.and_true]
   congr 1
   rw [Bool.eq_iff_iff];simp;omega
 ·refine Ev.succ ?_
  simp only [impl_dominators.l2]
  refine Ev.ite_pos (by omega) (Ev.ite_pos (by omega) (Ev.ite_pos (by unfold boolsG;rw [tab_length];omega) (Ev.ite_pos (by unfold boolsG;rw [tab_length];omega) ?_)))
  rw [boolsG_rd _ (by omega) (by omega),boolsG_rd _ (by omega) (by omega),tab_getD _ (by omega) (by omega)]
  refine Ev.ite_pos (by rw [tab_length];omega) ?_
  rw [wrap_succ (by omega),tab_set _ (by omega),tab_set _ (by omega)]
  refine Ev.cast ?_ rfl
  rw [show tab g.length (fun b : Int => if b = (j : Int) then tab g.length (fun d : Int => if d = (m : Int) then decide ((j : Int) ∈ leftG g []) && !decide ((j : Int) ∈ leftG g [(m : Int)]) else (decide (d < m) || (decide (d = m) && decide ((j : Int) < (j : Int)))) && domB g d j) else tab g.length (fun d : Int => (decide (d < m) || (decide (d = m) && decide (b < (j : Int)))) && domB g d b)) = tab g.length (fun b : Int => tab g.length (fun d : Int => (decide (d < m) || (decide (d = m) && decide (b < ((j + 1 : Nat) : Int)))) && domB g d b)) from ?_]
  ·exact ih
  ·refine tab_congr fun b _ _ => ?_
   by_cases hb : b = j
   ·rw [if_pos hb]
    subst hb
    refine tab_congr fun d _ _ => ?_
    by_cases hd : d = m
    ·subst hd
     have h3 : decide ((j : Int) < ((j + 1 : Nat) : Int)) = true:=decide_eq_true (by omega)
     rw [if_pos rfl,h3]
     unfold domB
     simp [h1]
    ·rw [if_neg hd];simp [hd]
   ·rw [if_neg hb]
    refine tab_congr fun d _ _ => ?_
    have h3 : decide (b < ((j + 1 : Nat) : Int)) = decide (b < (j : Int)):=by rw [Bool.eq_iff_iff];simp;omega
    rw [h3]
theorem iDoms_ev {g : List (List Int)} (hg : GG g) : Ev (fun k => impl_dominators.f k g) (tab g.length (fun b => tab g.length (fun d => domB g d b))):=by
 have hhi:=hg.hi
 unfold impl_dominators.f
 refine Ev.ite_pos (by omega) (Ev.bind (iReach_ev hg [] (by simp)) ?_)
 have e1 : tab g.length (fun b => tab g.length (fun d => domB g d b)) = tab g.length (domT g g.length):=by
  refine tab_congr fun b _ _ => tab_congr fun d _ hd => ?_
  rw [decide_eq_true (by omega),Bool.true_and]
 have e2 : tab g.length (fun b : Int => if b < ((g.length : Nat) : Int) then List.replicate g.length false else []) = tab g.length (domT g 0):=by
  refine tab_congr fun b _ hb => ?_
  rw [if_pos hb,tab_rep]
  refine tab_congr fun d h _ => ?_
  rw [decide_eq_false (by omega),Bool.false_and]
 have e3 : List.replicate g.length ([] : List Bool) = tab g.length (fun b : Int => if b < ((0 : Nat) : Int) then List.replicate g.length false else []):=by
  rw [tab_rep]
  exact tab_congr fun b h _ => by rw [if_neg (by omega)]
 rw [e3,e1]
 refine Ev.count g.length (fun k x i => impl_dominators.l0 k g (boolsG g.length (leftG g [])) x i) (fun m => tab g.length (fun b : Int => if b < (m : Int) then List.replicate g.length false else [])) _ ?_ (fun m hm ih => ?_)
 ·refine Ev.succ ?_
  simp only [impl_dominators.l0]
  refine Ev.ite_neg (by omega) ?_
  rw [e2]
  refine Ev.count g.length (fun k x i => impl_dominators.l1 k g (boolsG g.length (leftG g [])) x i) (fun m => tab g.length (domT g m)) _ ?_ (fun m hm ih => ?_)
  ·refine Ev.succ ?_
   simp only [impl_dominators.l1]
   exact Ev.ite_neg (by unfold boolsG;rw [tab_length];omega) (Ev.some rfl)
  ·refine Ev.succ ?_
   simp only [impl_dominators.l1]
   refine Ev.ite_pos (by unfold boolsG;rw [tab_length];omega) (Ev.ite_pos (by omega) ?_)
   rw [boolsG_rd _ (by omega) (by omega)]
   by_cases h1 : (m : Int) ∈ leftG g []
   ·refine Ev.ite_pos (by simpa using h1) (Ev.bind (iReach_ev hg [(m : Int)] (by simp)) ?_)
    exact iDomRow_ev hg m hm h1 ih
   ·refine Ev.ite_neg (by simpa using h1) ?_
    rw [wrap_succ (by omega)]
    rw [show tab g.length (domT g m) = tab g.length (domT g (m + 1)) from ?_]
    ·exact ih
    ·refine tab_congr fun b _ _ => tab_congr fun d _ _ => ?_
     by_cases hd : d = m
     ·subst hd;unfold domB;simp [h1]
     ·congr 1
      rw [Bool.eq_iff_iff];simp;omega
 ·refine Ev.succ ?_
  simp only [impl_dominators.l0]
  refine Ev.ite_pos (by omega) (Ev.ite_pos (by omega) ?_)
  rw [wrap_succ (by omega),tab_set _ (by omega)]
  rw [show tab g.length (fun b : Int => if b = (m : Int) then List.replicate g.length false else if b < (m : Int) then List.replicate g.length false else []) = tab g.length (fun b : Int => if b < ((m + 1 : Nat) : Int) then List.replicate g.length false else []) from ?_]
  ·exact ih
  ·refine tab_congr fun b _ _ => ?_
   by_cases hb : b = m
   ·rw [if_pos hb,if_pos (by omega)]
   ·rw [if_neg hb]
    by_cases h : b < (m : Int)
    ·rw [if_pos h,if_pos (by omega)]
    ·rw [if_neg h,if_neg (by omega)]
theorem listOf_ev (n : Nat) (hn : n ≤ 1000000) (B : Int → Bool) : Ev (fun k => impl_listOf.f k (tab n B)) ((upto n).filter B):=by
 unfold impl_listOf.f
 rw [tab_length]
 refine Ev.count n (fun k x i => impl_listOf.l0 k x (tab n B) (n : Int) i) (fun m => (upto m).filter B) _ ?_ (fun m hm ih => ?_)
 ·refine Ev.succ ?_
  simp only [impl_listOf.l0]
  exact Ev.ite_neg (by omega) (Ev.some rfl)
 ·refine Ev.succ ?_
  simp only [impl_listOf.l0]
  have hl:=List.length_filter_le B (upto m)
  rw [upto_length] at hl
  refine Ev.ite_pos (by omega) (Ev.ite_pos (by omega) (Ev.ite_pos (by rw [tab_length];omega) ?_))
  rw [show rdOf false (tab n B) (m : Int) = B m from tab_getD _ (by omega) (by omega) _,wrap_succ (by omega)]
  rw [filter_upto_succ] at ih
  cases hB : B m with
  | true =>
   rw [hB,if_pos rfl] at ih
   exact Ev.ite_pos rfl (Ev.ite_pos (by omega) ih)
  | false =>
   rw [hB,if_neg (by simp),List.append_nil] at ih
   exact Ev.ite_neg (by simp) ih

theorem l1Put_at (p q : List Int) (x : Int) (hl : (p ++ q).length ≤ 1000) (hp : ∀ y ∈ p,y < x) {r : List Int} (h : Ev (fun k => spec_l1Put.l0 k (p ++ q) x (p.length : Int)) r) : Ev (fun k => spec_l1Put.f k (p ++ q) x) r:=by
 unfold spec_l1Put.f
 refine Ev.rangeP p (fun k (_ : Unit) i => spec_l1Put.l0 k (p ++ q) x i) (fun _ _ _ => r) (fun _ => h) (fun _ p' y q' e ih => ?_) ()
 refine Ev.succ ?_
 simp only [spec_l1Put.l0]
 have hlen : p'.length < p.length:=by rw [e];simp
 have hlen2 : (p ++ q).length = p.length + q.length:=by simp
 have hr : rd (p ++ q) (p'.length : Int) = y:=by rw [e,List.append_assoc];exact rd_mid _ _ _
 have hy:=hp y (by rw [e];simp)
 refine Ev.ite_pos (by omega) (Ev.ite_pos (by omega) (Ev.ite_pos (by omega) ?_))
 rw [wrap_succ (by omega)]
 exact ih ()
theorem l1Put_same (p q : List Int) (x : Int) (hl : (p ++ x :: q).length ≤ 1000) (hp : ∀ y ∈ p,y < x) : Ev (fun k => spec_l1Put.f k (p ++ x :: q) x) (p ++ x :: q):=by
 refine l1Put_at p (x :: q) x hl hp (Ev.succ ?_)
 simp only [spec_l1Put.l0]
 have hlen2 : (p ++ x :: q).length = p.length + q.length + 1:=by simp;omega
 have hr : rd (p ++ x :: q) (p.length : Int) = x:=rd_mid _ _ _
 exact Ev.ite_pos (by omega) (Ev.ite_pos (by omega) (Ev.ite_neg (by omega) (Ev.ite_pos hr (Ev.some rfl))))
theorem l1Put_new (p q : List Int) (x : Int) (hl : (p ++ q).length ≤ 1000) (hp : ∀ y ∈ p,y < x) (hq : ∀ y ∈ q,x < y) : Ev (fun k => spec_l1Put.f k (p ++ q) x) (p ++ x :: q):=by
 refine l1Put_at p q x hl hp (Ev.succ ?_)
 simp only [spec_l1Put.l0]
 have hlen2 : (p ++ q).length = p.length + q.length:=by simp
 cases q with
 | nil =>
  rw [List.append_nil] at *
  refine Ev.ite_neg (by omega) (Ev.ite_pos (by omega) (Ev.ite_pos (by omega) ?_))
  rw [Int.toNat_natCast,List.take_length,List.drop_length]
  refine Ev.bind (Ev.now _) (Ev.ite_pos (by simp;omega) (Ev.bind (Ev.now _) (Ev.ite_pos (by simp;omega) (Ev.bind (Ev.now _) (Ev.bind (Ev.now _) (Ev.ite_pos (by simp;omega) (Ev.some ?_)))))))
  simp
 | cons y q =>
  have hr : rd (p ++ y :: q) (p.length : Int) = y:=rd_mid _ _ _
  have hy:=hq y (by simp)
  have hlen3 : (y :: q).length = q.length + 1:=rfl
  refine Ev.ite_pos (by omega) (Ev.ite_pos (by omega) (Ev.ite_neg (by omega) (Ev.ite_neg (by omega) (Ev.ite_pos (by omega) ?_))))
  rw [Int.toNat_natCast,List.take_left,List.drop_left]
  refine Ev.bind (Ev.now _) (Ev.ite_pos (by simp;omega) (Ev.bind (Ev.now _) (Ev.ite_pos (by simp;omega) (Ev.bind (Ev.now _) (Ev.bind (Ev.now _) (Ev.ite_pos (by have h9:=hl;simp at h9 ⊢;omega) (Ev.some ?_)))))))
  simp
/-- What lies in s, of the numbers below n, rising. -/
def srt (n : Nat) (s : List Int) : List Int:=(upto n).filter (fun x => decide (x ∈ s))
theorem srt_mem {n : Nat} {s : List Int} {x : Int} : x ∈ srt n s ↔ (0 ≤ x ∧ x < n) ∧ x ∈ s:=by
 rw [srt,List.mem_filter,upto_mem,decide_eq_true_iff]
theorem srt_len (n : Nat) (s : List Int) : (srt n s).length ≤ n:=by
 have:=List.length_filter_le (fun x => decide (x ∈ s)) (upto n)
 rw [upto_length] at this
 exact this
theorem srt_congr {n : Nat} {s : List Int} {B : Int → Bool} (h : ∀ x : Int,0 ≤ x → x < n → (x ∈ s ↔ B x = true)) : srt n s = (upto n).filter B:=by
 unfold srt
 refine List.filter_congr fun x hx => ?_
 have:=upto_mem.1 hx
 rw [Bool.eq_iff_iff,decide_eq_true_iff]
 exact h x this.1 this.2
theorem upto_split {n m : Nat} (h : m < n) : ∃ t,upto n = upto m ++ (m : Int) :: t ∧ ∀ y ∈ t,(m : Int) < y:=by
 induction n with
 | zero => omega
 | succ n ih =>
  by_cases e : m = n
  ·subst e
   exact ⟨[],by rw [upto_succ],by simp⟩
  ·obtain ⟨t,ht,hy⟩:=ih (by omega)
   refine ⟨t ++ [(n : Int)],by rw [upto_succ,ht];simp,fun y hy' => ?_⟩
   rcases List.mem_append.1 hy' with h' | h'
   ·exact hy y h'
   ·rw [List.mem_singleton] at h';omega
theorem l1Put_srt (n : Nat) (hn : n ≤ 1000) (s : List Int) (x : Int) (h0 : 0 ≤ x) (h1 : x < n) : Ev (fun k => spec_l1Put.f k (srt n s) x) (srt n (s ++ [x])):=by
 obtain ⟨m,rfl⟩ : ∃ m : Nat,x = m:=⟨x.toNat,by omega⟩
 obtain ⟨t,ht,hy⟩:=upto_split (n:=n) (m:=m) (by omega)
 have hlen:=srt_len n s
 have hlt : ∀ y ∈ (upto m).filter (fun x => decide (x ∈ s)),y < (m : Int):=fun y hy => (upto_mem.1 (List.mem_filter.1 hy).1).2
 have hgt : ∀ y ∈ t.filter (fun x => decide (x ∈ s)),(m : Int) < y:=fun y hy' => hy y (List.mem_filter.1 hy').1
 have e1 : (upto m).filter (fun x => decide (x ∈ s ++ [(m : Int)])) = (upto m).filter (fun x => decide (x ∈ s)):=List.filter_congr fun y hy' => by
  have:=(upto_mem.1 hy').2
  rw [Bool.eq_iff_iff,decide_eq_true_iff,decide_eq_true_iff,List.mem_append,List.mem_singleton]
  exact ⟨fun h => h.elim id (fun e => by omega),.inl⟩
 have e2 : t.filter (fun x => decide (x ∈ s ++ [(m : Int)])) = t.filter (fun x => decide (x ∈ s)):=List.filter_congr fun y hy' => by
  have:=hy y hy'
  rw [Bool.eq_iff_iff,decide_eq_true_iff,decide_eq_true_iff,List.mem_append,List.mem_singleton]
  exact ⟨fun h => h.elim id (fun e => by omega),.inl⟩
 have e3 : srt n (s ++ [(m : Int)]) = (upto m).filter (fun x => decide (x ∈ s)) ++ (m : Int) :: t.filter (fun x => decide (x ∈ s)):=by
  unfold srt
  rw [ht,List.filter_append,List.filter_cons_of_pos (by simp),e1,e2]
 by_cases hm : (m : Int) ∈ s
 ·have e4 : srt n s = (upto m).filter (fun x => decide (x ∈ s)) ++ (m : Int) :: t.filter (fun x => decide (x ∈ s)):=by
   unfold srt
   rw [ht,List.filter_append,List.filter_cons_of_pos (by simpa using hm)]
  rw [e3,e4]
  exact l1Put_same _ _ _ (by rw [← e4];omega) hlt
 ·have e4 : srt n s = (upto m).filter (fun x => decide (x ∈ s)) ++ t.filter (fun x => decide (x ∈ s)):=by
   unfold srt
   rw [ht,List.filter_append,List.filter_cons_of_neg (by simpa using hm)]
  rw [e3,e4]
  exact l1Put_new _ _ _ (by rw [← e4];omega) hlt hgt
theorem srt_add (n : Nat) (s : List Int) (x : Int) (h0 : 0 ≤ x) (h1 : x < n) (hx : x ∉ s) : (srt n (s ++ [x])).length = (srt n s).length + 1:=by
 obtain ⟨m,rfl⟩ : ∃ m : Nat,x = m:=⟨x.toNat,by omega⟩
 obtain ⟨t,ht,hy⟩:=upto_split (n:=n) (m:=m) (by omega)
 have e1 : (upto m).filter (fun x => decide (x ∈ s ++ [(m : Int)])) = (upto m).filter (fun x => decide (x ∈ s)):=List.filter_congr fun y hy' => by
  have:=(upto_mem.1 hy').2
  rw [Bool.eq_iff_iff,decide_eq_true_iff,decide_eq_true_iff,List.mem_append,List.mem_singleton]
  exact ⟨fun h => h.elim id (fun e => by omega),.inl⟩
 have e2 : t.filter (fun x => decide (x ∈ s ++ [(m : Int)])) = t.filter (fun x => decide (x ∈ s)):=List.filter_congr fun y hy' => by
  have:=hy y hy'
  rw [Bool.eq_iff_iff,decide_eq_true_iff,decide_eq_true_iff,List.mem_append,List.mem_singleton]
  exact ⟨fun h => h.elim id (fun e => by omega),.inl⟩
 unfold srt
 rw [ht,List.filter_append,List.filter_append,List.filter_cons_of_pos (by simp),List.filter_cons_of_neg (by simpa using hx),e1,e2]
 simp only [List.length_append,List.length_cons]
 omega
theorem srt_one (n : Nat) (x : Int) (h0 : 0 ≤ x) (h1 : x < n) : [x] = srt n [x]:=by
 obtain ⟨m,rfl⟩ : ∃ m : Nat,x = m:=⟨x.toNat,by omega⟩
 obtain ⟨t,ht,hy⟩:=upto_split (n:=n) (m:=m) (by omega)
 unfold srt
 rw [ht,List.filter_append,List.filter_cons_of_pos (by simp)]
 have e1 : (upto m).filter (fun x => decide (x ∈ [(m : Int)])) = []:=List.filter_eq_nil_iff.2 fun y hy' => by
  have:=(upto_mem.1 hy').2
  simp;omega
 have e2 : t.filter (fun x => decide (x ∈ [(m : Int)])) = []:=List.filter_eq_nil_iff.2 fun y hy' => by
  have:=hy y hy'
  simp;omega
 rw [e1,e2,List.nil_append]

theorem risesL_pair (n : Int) : ∀ (q p : List Int),risesL n p q = true → (∀ y,p.getLast? = some y → ∀ x ∈ q,y < x) ∧ q.Pairwise (· < ·)
 | [],_,_ => by simp
 | z :: q,p,h => by
  rw [risesL,Bool.and_eq_true,Bool.and_eq_true] at h
  have ih:=risesL_pair n q (p ++ [z]) h.2.2
  have hz:=ih.1 z (by simp)
  refine ⟨fun y hy x hx => ?_,List.pairwise_cons.2 ⟨hz,ih.2⟩⟩
  have h2:=h.2.1
  rw [hy] at h2
  have h3 : y < z:=by simpa using h2
  rcases List.mem_cons.1 hx with rfl | hx
  ·exact h3
  ·have:=hz x hx;omega
theorem rise_nodup {q : List Int} (h : q.Pairwise (· < ·)) : q.Nodup:=h.imp (fun hab e => by omega)
theorem GG.ok {g : List (List Int)} (hg : GG g) {r : List Int} (hr : r ∈ g) : OkS g.length r:=⟨rise_nodup (risesL_pair _ r [] (hg.rise r hr)).2,hg.inn r hr⟩

/-- The back edges out of i, of these goals. -/
def backRow (g : List (List Int)) (i : Int) : List Int → List (List Int)
 | [] => []
 | x :: q => (if domB g x i = true then [[i,x]] else []) ++ backRow g i q
def backAll (g : List (List Int)) : Nat → List (List Int)
 | 0 => []
 | m + 1 => backAll g m ++ backRow g m (rowG g m)
theorem backRow_append (g : List (List Int)) (i : Int) : ∀ p q : List Int,backRow g i (p ++ q) = backRow g i p ++ backRow g i q
 | [],_ => rfl
 | x :: p,q => by simp only [List.cons_append,backRow];rw [backRow_append g i p q,List.append_assoc]
theorem backRow_len (g : List (List Int)) (i : Int) : ∀ q : List Int,(backRow g i q).length ≤ q.length ∧ ∀ x ∈ backRow g i q,x.length = 2
 | [] => by simp [backRow]
 | x :: q => by
  have h:=backRow_len g i q
  rw [backRow]
  split
  ·simp only [List.cons_append,List.nil_append,List.length_cons]
   refine ⟨by omega,fun y hy => ?_⟩
   rcases List.mem_cons.1 hy with rfl | hy
   ·rfl
   ·exact h.2 y hy
  ·simp only [List.nil_append,List.length_cons]
   exact ⟨by omega,h.2⟩
theorem backAll_len {g : List (List Int)} (hg : GG g) : ∀ m : Nat,m ≤ g.length → (backAll g m).length ≤ m * 1048576 ∧ ∀ x ∈ backAll g m,x.length = 2
 | 0,_ => by simp [backAll]
 | m + 1,h => by
  have h1:=backAll_len hg m (by omega)
  have h2:=backRow_len g m (rowG g m)
  have h3:=hg.row _ (rowG_mem (g:=g) (x:=m) (by omega) (by omega))
  rw [backAll,List.length_append]
  refine ⟨by omega,fun x hx => ?_⟩
  rcases List.mem_append.1 hx with hx | hx
  ·exact h1.2 x hx
  ·exact h2.2 x hx
theorem iBackRow_ev {g : List (List Int)} (hg : GG g) (m : Nat) (hm : m < g.length) {r : List (List Int)}
  (hnext : Ev (fun k => impl_Graph_backEdges.l0 k g (tab g.length (fun b : Int => tab g.length (fun d : Int => domB g d b))) (backAll g (m + 1)) ((m : Int) + 1)) r) :
  Ev (fun k => impl_Graph_backEdges.l1 k g (tab g.length (fun b : Int => tab g.length (fun d : Int => domB g d b))) (backAll g m) (m : Int) (rowG g m) 0) r:=by
 have hhi:=hg.hi
 have hr:=rowG_mem (g:=g) (x:=m) (by omega) (by omega)
 have hrow:=hg.row _ hr
 have hin:=hg.inn _ hr
 have hb0:=(backAll_len hg m (by omega)).1
 rw [backAll] at hnext
 generalize rowG g m = row at hrow hin hnext ⊢
 have main:=Ev.rangeI row (fun k x j => impl_Graph_backEdges.l1 k g (tab g.length (fun b : Int => tab g.length (fun d : Int => domB g d b))) x (m : Int) row j) (fun _ _ _ => r) (fun x p => x = backAll g m ++ backRow g m p) (fun x hx => ?_) (fun x p y q e hx ih2 => ?_) (backAll g m) (by simp [backRow])
 ·exact main
 ·refine Ev.succ ?_
  simp only [impl_Graph_backEdges.l1]
  refine Ev.ite_neg (by omega) ?_
  rw [wrap_succ (by omega),hx]
  exact hnext
 ·refine Ev.succ ?_
  simp only [impl_Graph_backEdges.l1]
  have hlen : p.length < row.length:=by rw [e];simp
  have hrd : rd row (p.length : Int) = y:=by rw [e];exact rd_mid _ _ _
  have hy:=hin y (by rw [e];simp)
  have hxl : x.length ≤ m * 1048576 + p.length:=by rw [hx,List.length_append];have:=(backRow_len g m p).1;omega
  refine Ev.ite_pos (by omega) (Ev.ite_pos (by omega) (Ev.ite_pos (by rw [tab_length];omega) ?_))
  rw [hrd,tab_getD _ (by omega) (by omega)]
  refine Ev.ite_pos hy.1 (Ev.ite_pos (by rw [tab_length];exact hy.2) ?_)
  rw [show rdOf false (tab g.length (fun d : Int => domB g d m)) y = domB g y m from tab_getD _ hy.1 hy.2 _,wrap_succ (by omega)]
  by_cases hd : domB g y m = true
  ·refine Ev.ite_pos hd (Ev.ite_pos (by omega) (ih2 _ ?_))
   rw [hx,backRow_append,List.append_assoc]
   simp [backRow,hd]
  ·refine Ev.ite_neg hd (ih2 _ ?_)
   rw [hx,backRow_append]
   simp [backRow,hd]
theorem iBack_ev {g : List (List Int)} (hg : GG g) : Ev (fun k => impl_Graph_backEdges.f k g) (backAll g g.length):=by
 have hhi:=hg.hi
 unfold impl_Graph_backEdges.f
 refine Ev.bind (iDoms_ev hg) ?_
 refine Ev.count g.length (fun k x i => impl_Graph_backEdges.l0 k g (tab g.length (fun b : Int => tab g.length (fun d : Int => domB g d b))) x i) (fun m => backAll g m) _ ?_ (fun m hm ih => ?_)
 ·refine Ev.succ ?_
  simp only [impl_Graph_backEdges.l0]
  exact Ev.ite_neg (by omega) (Ev.some rfl)
 ·refine Ev.succ ?_
  simp only [impl_Graph_backEdges.l0]
  refine Ev.ite_pos (by omega) (Ev.ite_pos (by omega) ?_)
  exact iBackRow_ev hg m hm ih
theorem sBackRow_ev {g : List (List Int)} (hg : GG g) (m : Nat) (hm : m < g.length) {r : List (List Int)}
  (hnext : Ev (fun k => spec_l7Back.l0 k (tab g.length (domL g g.length)) (backAll g (m + 1)) g (g.length : Int) ((m : Int) + 1)) r) :
  Ev (fun k => spec_l7Back.l1 k (tab g.length (domL g g.length)) (backAll g m) (m : Int) g (g.length : Int) (m : Int) (rowG g m) ((rowG g m).length : Int) 0) r:=by
 have hhi:=hg.hi
 have hr:=rowG_mem (g:=g) (x:=m) (by omega) (by omega)
 have hrow:=hg.row _ hr
 have hin:=hg.inn _ hr
 have hb0:=(backAll_len hg m (by omega)).1
 rw [backAll] at hnext
 generalize rowG g m = row at hrow hin hnext ⊢
 have main:=Ev.rangeI row (fun k x j => spec_l7Back.l1 k (tab g.length (domL g g.length)) x (m : Int) g (g.length : Int) (m : Int) row (row.length : Int) j) (fun _ _ _ => r) (fun x p => x = backAll g m ++ backRow g m p) (fun x hx => ?_) (fun x p y q e hx ih2 => ?_) (backAll g m) (by simp [backRow])
 ·exact main
 ·refine Ev.succ ?_
  simp only [spec_l7Back.l1]
  refine Ev.ite_neg (by omega) ?_
  rw [wrap_succ (by omega),hx]
  exact hnext
 ·refine Ev.succ ?_
  simp only [spec_l7Back.l1]
  have hlen : p.length < row.length:=by rw [e];simp
  have hrd : rd row (p.length : Int) = y:=by rw [e];exact rd_mid _ _ _
  have hy:=hin y (by rw [e];simp)
  have hxl : x.length ≤ m * 1048576 + p.length:=by rw [hx,List.length_append];have:=(backRow_len g m p).1;omega
  refine Ev.ite_pos (by omega) (Ev.ite_pos (by omega) (Ev.ite_pos (by omega) (Ev.ite_pos (by omega) (Ev.ite_pos (by rw [tab_length];omega) ?_))))
  rw [hrd,show rd_L1 (tab g.length (domL g g.length)) (m : Int) = domL g g.length m from tab_getD _ (by omega) (by omega) _]
  refine Ev.bind (l1Has_ev _ _ (by have:=domL_len g g.length m;omega)) ?_
  rw [domL_mem hy.1 hy.2,wrap_succ (by omega)]
  by_cases hd : domB g y m = true
  ·refine Ev.ite_pos hd (Ev.ite_pos (by omega) (ih2 _ ?_))
   rw [hx,backRow_append,List.append_assoc]
   simp [backRow,hd]
  ·refine Ev.ite_neg hd (ih2 _ ?_)
   rw [hx,backRow_append]
   simp [backRow,hd]
theorem sBack_ev {g : List (List Int)} (hg : GG g) : Ev (fun k => spec_l7Back.f k g (tab g.length (domL g g.length))) (backAll g g.length):=by
 have hhi:=hg.hi
 unfold spec_l7Back.f
 refine Ev.count g.length (fun k x i => spec_l7Back.l0 k (tab g.length (domL g g.length)) x g (g.length : Int) i) (fun m => backAll g m) _ ?_ (fun m hm ih => ?_)
 ·refine Ev.succ ?_
  simp only [spec_l7Back.l0]
  exact Ev.ite_neg (by omega) (Ev.some rfl)
 ·refine Ev.succ ?_
  simp only [spec_l7Back.l0]
  refine Ev.ite_pos (by omega) (Ev.ite_pos (by omega) (Ev.ite_pos (by omega) ?_))
  exact sBackRow_ev hg m hm ih
theorem backAll_len2 {g : List (List Int)} (hg : GG g) : ∀ m : Nat,m ≤ g.length → (backAll g m).length ≤ m * 12 ∧ ∀ x ∈ backAll g m,x.length = 2
 | 0,_ => by simp [backAll]
 | m + 1,h => by
  have h1:=backAll_len2 hg m (by omega)
  have h2:=backRow_len g m (rowG g m)
  have h3:=(hg.ok (rowG_mem (g:=g) (x:=m) (by omega) (by omega))).le
  have:=hg.hi
  rw [backAll,List.length_append]
  refine ⟨by omega,fun x hx => ?_⟩
  rcases List.mem_append.1 hx with hx | hx
  ·exact h1.2 x hx
  ·exact h2.2 x hx

/-- A way along a relation. -/
inductive Star (R : Int → Int → Prop) : Int → Int → Prop
 | refl (a : Int) : Star R a a
 | step {a b c : Int} : R a b → Star R b c → Star R a c
theorem Star.snoc {R : Int → Int → Prop} {a b c : Int} (h : Star R a b) (hr : R b c) : Star R a c:=by
 induction h with
 | refl a => exact .step hr (.refl _)
 | step h1 _ ih => exact .step h1 (ih hr)
theorem Star.trans {R : Int → Int → Prop} {a b c : Int} (h : Star R a b) (h2 : Star R b c) : Star R a c:=by
 induction h with
 | refl a => exact h2
 | step h1 _ ih => exact .step h1 (ih h2)
/-- One edge that leaves out av. -/
def stepG (g : List (List Int)) (av : List Int) (y x : Int) : Prop:=x ∈ rowG g y ∧ x ∉ av
theorem passRow_tail (av : List Int) : ∀ q s : List Int,∃ t,passRow av s q = s ++ t
 | [],s => ⟨[],by simp [passRow]⟩
 | x :: q,s => by
  rw [passRow]
  by_cases h : x ∈ av ∨ x ∈ s
  ·rw [if_pos h];exact passRow_tail av q s
  ·rw [if_neg h]
   obtain ⟨t,ht⟩:=passRow_tail av q (s ++ [x])
   exact ⟨x :: t,by rw [ht];simp⟩
theorem passRow_mem (av : List Int) (y : Int) : ∀ q s : List Int,y ∈ passRow av s q ↔ y ∈ s ∨ (y ∈ q ∧ y ∉ av)
 | [],s => by simp [passRow]
 | x :: q,s => by
  rw [passRow,passRow_mem av y q]
  by_cases h : x ∈ av ∨ x ∈ s
  ·rw [if_pos h]
   constructor
   ·rintro (h1 | h1)
    ·exact .inl h1
    ·exact .inr ⟨by simp [h1.1],h1.2⟩
   ·rintro (h1 | ⟨h1,h2⟩)
    ·exact .inl h1
    ·rcases List.mem_cons.1 h1 with rfl | h1
     ·exact .inl (h.resolve_left h2)
     ·exact .inr ⟨h1,h2⟩
  ·rw [if_neg h]
   constructor
   ·rintro (h1 | h1)
    ·rcases List.mem_append.1 h1 with h1 | h1
     ·exact .inl h1
     ·rw [List.mem_singleton] at h1
      subst h1
      exact .inr ⟨by simp,fun e => h (.inl e)⟩
    ·exact .inr ⟨by simp [h1.1],h1.2⟩
   ·rintro (h1 | ⟨h1,h2⟩)
    ·exact .inl (by simp [h1])
    ·rcases List.mem_cons.1 h1 with rfl | h1
     ·exact .inl (by simp)
     ·exact .inr ⟨h1,h2⟩
theorem walkG_sup (g : List (List Int)) (av : List Int) : ∀ (f : Nat) (s : List Int) (i : Nat),∀ y ∈ s,y ∈ walkG g av f s i
 | 0,s,i,y,hy => hy
 | f + 1,s,i,y,hy => by
  rw [walkG]
  split
  ·exact walkG_sup g av f _ _ y ((passRow_mem av y _ s).2 (.inl hy))
  ·exact hy
theorem walkG_sound (g : List (List Int)) (av : List Int) (a : Int) : ∀ (f : Nat) (s : List Int) (i : Nat),(∀ y ∈ s,Star (stepG g av) a y) → ∀ y ∈ walkG g av f s i,Star (stepG g av) a y
 | 0,s,i,h,y,hy => h y hy
 | f + 1,s,i,h,y,hy => by
  rw [walkG] at hy
  split at hy
  ·rename_i hi
   refine walkG_sound g av a f _ _ (fun z hz => ?_) y hy
   rcases (passRow_mem av z _ s).1 hz with hz | hz
   ·exact h z hz
   ·exact (h _ (rd_mem hi)).snoc hz
  ·exact h y hy
theorem rd_app {s : List Int} (t : List Int) {j : Nat} (h : j < s.length) : rd (s ++ t) (j : Int) = rd s j:=by
 unfold rd
 rw [Int.toNat_natCast,List.getD_eq_getElem?_getD,List.getD_eq_getElem?_getD,List.getElem?_append_left h]
theorem rd_of_mem {s : List Int} {y : Int} (h : y ∈ s) : ∃ j : Nat,j < s.length ∧ rd s (j : Int) = y:=by
 obtain ⟨j,hj,rfl⟩:=List.mem_iff_getElem.1 h
 exact ⟨j,hj,by unfold rd;rw [Int.toNat_natCast,List.getD_eq_getElem?_getD,List.getElem?_eq_getElem hj];rfl⟩
theorem walkG_closed {g : List (List Int)} (hg : GW g) (av : List Int) : ∀ (f : Nat) (s : List Int) (i : Nat),OkS g.length s → i + f = g.length + 1 → (∀ j : Nat,j < i → j < s.length → ∀ x,stepG g av (rd s j) x → x ∈ s) →
  ∀ y ∈ walkG g av f s i,∀ x,stepG g av y x → x ∈ walkG g av f s i
 | 0,s,i,h,hi,hc,y,hy,x,hx => by
  have:=h.le
  rw [walkG] at hy ⊢
  obtain ⟨j,hj,rfl⟩:=rd_of_mem hy
  exact hc j (by omega) hj x hx
 | f + 1,s,i,h,hi,hc,y,hy,x,hx => by
  rw [walkG] at hy ⊢
  by_cases h1 : i < s.length
  ·rw [if_pos h1] at hy ⊢
   have hm:=h.2 _ (rd_mem h1)
   refine walkG_closed hg av f _ (i + 1) (passRow_ok av _ _ h (hg.inn _ (rowG_mem hm.1 hm.2))).1 (by omega) (fun j hj hj2 z hz => ?_) y hy x hx
   obtain ⟨t,ht⟩:=passRow_tail av (rowG g (rd s i)) s
   have hjs : j < s.length:=by omega
   rw [ht,rd_app t hjs] at hz
   by_cases h2 : j < i
   ·exact (passRow_mem av z _ s).2 (.inl (hc j h2 hjs z hz))
   ·have : j = i:=by omega
    subst this
    exact (passRow_mem av z _ s).2 (.inr hz)
  ·rw [if_neg h1] at hy ⊢
   obtain ⟨j,hj,rfl⟩:=rd_of_mem hy
   exact hc j (by omega) hj x hx
/-- What the walk from a comes to. -/
theorem walkG_iff {g : List (List Int)} (hg : GW g) (av : List Int) {a : Int} (h0 : 0 ≤ a) (h1 : a < g.length) (y : Int) : y ∈ walkG g av (g.length + 1) [a] 0 ↔ Star (stepG g av) a y:=by
 have hok : OkS g.length [a]:=⟨by simp,fun x hx => by rw [List.mem_singleton] at hx;omega⟩
 constructor
 ·refine walkG_sound g av a _ [a] 0 (fun z hz => ?_) y
  rw [List.mem_singleton] at hz
  subst hz
  exact .refl _
 ·intro h
  have main : ∀ b c,Star (stepG g av) b c → b ∈ walkG g av (g.length + 1) [a] 0 → c ∈ walkG g av (g.length + 1) [a] 0:=by
   intro b c h
   induction h with
   | refl b => exact fun h => h
   | step h1 _ ih => exact fun hb => ih (walkG_closed hg av _ [a] 0 hok (by omega) (fun j hj => by omega) _ hb _ h1)
  exact main a y h (walkG_sup g av _ [a] 0 a (by simp))
theorem leftG_iff {g : List (List Int)} (hg : GG g) {av : List Int} (h : (0 : Int) ∉ av) (y : Int) : y ∈ leftG g av ↔ Star (stepG g av) 0 y:=by
 have:=hg.lo
 unfold leftG
 rw [if_neg h]
 exact walkG_iff hg.toGW av (by omega) (by omega) y

/-- The goals of k by edges that do not lead back. -/
def fwd (g : List (List Int)) (k : Int) : List Int:=(rowG g k).filter (fun x => !domB g x k)
def nxG (g : List (List Int)) : List (List Int):=tab g.length (fwd g)
def downG (g : List (List Int)) (a : Int) : List Int:=walkG (nxG g) [] (g.length + 1) [a] 0
/-- Whether a way leads round. -/
def cycB (g : List (List Int)) : Bool:=((upto g.length).filter (fun k => decide (k ∈ leftG g []))).any fun k => (fwd g k).any fun x => decide (k ∈ downG g x)
theorem nxG_row {g : List (List Int)} {k : Int} (h0 : 0 ≤ k) (h1 : k < g.length) : rowG (nxG g) k = fwd g k:=tab_getD _ h0 h1 _
theorem fwd_in {g : List (List Int)} (hg : GG g) {k x : Int} (h0 : 0 ≤ k) (h1 : k < g.length) (hx : x ∈ fwd g k) : 0 ≤ x ∧ x < g.length:=hg.inn _ (rowG_mem h0 h1) x (List.mem_filter.1 hx).1
theorem fwd_len {g : List (List Int)} (hg : GG g) {k : Int} (h0 : 0 ≤ k) (h1 : k < g.length) : (fwd g k).length ≤ 12:=by
 have h:=(hg.ok (rowG_mem h0 h1)).le
 have:=hg.hi
 have h2:=List.length_filter_le (fun x => !domB g x k) (rowG g k)
 unfold fwd;omega
theorem nxG_len (g : List (List Int)) : (nxG g).length = g.length:=tab_length _ _
theorem nxG_ok {g : List (List Int)} (hg : GG g) : GW (nxG g):=by
 refine ⟨by rw [nxG_len];exact hg.lo,by rw [nxG_len];exact hg.hi,fun r hr => ?_,fun r hr x hx => ?_⟩
 ·obtain ⟨k,h0,h1,rfl⟩:=tab_mem.1 hr
  have:=fwd_len hg h0 h1;omega
 ·obtain ⟨k,h0,h1,rfl⟩:=tab_mem.1 hr
  rw [nxG_len]
  exact fwd_in hg h0 h1 hx
theorem downG_iff {g : List (List Int)} (hg : GG g) {a : Int} (h0 : 0 ≤ a) (h1 : a < g.length) (y : Int) : y ∈ downG g a ↔ Star (stepG (nxG g) []) a y:=by
 have:=walkG_iff (nxG_ok hg) [] h0 (by rw [nxG_len];exact h1) y
 rw [nxG_len] at this
 exact this
theorem downG_ok {g : List (List Int)} (hg : GG g) {a : Int} (h0 : 0 ≤ a) (h1 : a < g.length) : OkS g.length (downG g a):=by
 have:=walkG_ok (nxG_ok hg) [] (g.length + 1) [a] 0 ⟨by simp,fun x hx => by rw [List.mem_singleton] at hx;rw [nxG_len];omega⟩
 rwa [nxG_len] at this
theorem cycB_iff {g : List (List Int)} (hg : GG g) : cycB g = true ↔ ∃ k ∈ leftG g [],∃ x ∈ fwd g k,k ∈ downG g x:=by
 unfold cycB
 rw [List.any_eq_true]
 constructor
 ·rintro ⟨k,hk,h⟩
  rw [List.any_eq_true] at h
  obtain ⟨x,hx,h⟩:=h
  exact ⟨k,by simpa using (List.mem_filter.1 hk).2,x,hx,by simpa using h⟩
 ·rintro ⟨k,hk,x,hx,h⟩
  refine ⟨k,List.mem_filter.2 ⟨upto_mem.2 ((leftG_ok hg []).2 k hk),by simpa using hk⟩,?_⟩
  rw [List.any_eq_true]
  exact ⟨x,hx,by simpa using h⟩
/-- A set in which each has a goal within holds a way round. -/
theorem cyc_of_lead {g : List (List Int)} (hg : GG g) (L : List Int) (hL : ∀ k ∈ L,0 ≤ k ∧ k < g.length) (hs : ∀ k ∈ L,∃ x ∈ fwd g k,x ∈ L) : ∀ (m : Nat) (k : Int),k ∈ L → (downG g k).length ≤ m → ∃ k' ∈ L,∃ x ∈ fwd g k',k' ∈ downG g x
 | m,k,hk,hm => by
  obtain ⟨x,hx,hxL⟩:=hs k hk
  have hkn:=hL k hk
  have hxn:=hL x hxL
  by_cases h : k ∈ downG g x
  ·exact ⟨k,hk,x,hx,h⟩
  ·have hst : stepG (nxG g) [] k x:=⟨by rw [nxG_row hkn.1 hkn.2];exact hx,by simp⟩
   have hsub : ∀ y ∈ k :: downG g x,y ∈ downG g k:=fun y hy => by
    rw [downG_iff hg hkn.1 hkn.2]
    rcases List.mem_cons.1 hy with rfl | hy
    ·exact .refl _
    ·exact .step hst ((downG_iff hg hxn.1 hxn.2 y).1 hy)
   have hle:=nodup_le (k :: downG g x) (downG g k) (List.nodup_cons.2 ⟨h,(downG_ok hg hxn.1 hxn.2).1⟩) hsub
   rw [List.length_cons] at hle
   cases m with
   | zero => omega
   | succ m => exact cyc_of_lead hg L hL hs m x hxL (by omega)
/-- Whether k leads on within left. -/
def leadB (g : List (List Int)) (left : List Int) (k : Int) : Bool:=(rowG g k).any fun x => decide (x ∈ left) && !domB g x k
theorem leadB_iff {g : List (List Int)} {left : List Int} {k : Int} : leadB g left k = true ↔ ∃ x ∈ fwd g k,x ∈ left:=by
 unfold leadB fwd
 rw [List.any_eq_true]
 constructor
 ·rintro ⟨x,hx,h⟩
  rw [Bool.and_eq_true,decide_eq_true_iff] at h
  exact ⟨x,List.mem_filter.2 ⟨hx,h.2⟩,h.1⟩
 ·rintro ⟨x,hx,h⟩
  have:=List.mem_filter.1 hx
  exact ⟨x,this.1,by rw [Bool.and_eq_true,decide_eq_true_iff];exact ⟨h,this.2⟩⟩
theorem sLead_ev {g : List (List Int)} (hg : GG g) (left nx L : List Int) (n i : Int) (hl : OkS g.length left) (k0 : Int) (h0 : 0 ≤ k0) (h1 : k0 < g.length) (hnx : nx.length ≤ 1000) {r : Bool}
  (hnext : Ev (fun k => spec_l7Cyclic.l1 k (tab g.length (domL g g.length)) left (if leadB g left k0 = true then nx ++ [k0] else nx) L n (wrap64 (i + 1)) g) r) :
  Ev (fun k => spec_l7Cyclic.l2 k (tab g.length (domL g g.length)) left nx k0 false L n i (rowG g k0) ((rowG g k0).length : Int) 0 g) r:=by
 have hr:=rowG_mem (g:=g) h0 h1
 have hrow:=hg.row _ hr
 have hin:=hg.inn _ hr
 have hll:=hl.le
 have hhi:=hg.hi
 unfold leadB at hnext
 generalize rowG g k0 = row at hrow hin hnext ⊢
 have main:=Ev.rangeI row (fun k b j => spec_l7Cyclic.l2 k (tab g.length (domL g g.length)) left nx k0 b L n i row (row.length : Int) j g) (fun _ _ _ => r) (fun b p => b = p.any fun x => decide (x ∈ left) && !domB g x k0) (fun b hb => ?_) (fun b p x q e hb ih => ?_) false (by simp)
 ·exact main
 ·refine Ev.succ ?_
  simp only [spec_l7Cyclic.l2]
  rw [← hb] at hnext
  refine Ev.ite_neg (by omega) ?_
  cases b with
  | true =>
   rw [if_pos rfl] at hnext
   exact Ev.ite_pos rfl (Ev.ite_pos (by omega) hnext)
  | false =>
   rw [if_neg (by simp)] at hnext
   exact Ev.ite_neg (by simp) hnext
 ·refine Ev.succ ?_
  simp only [spec_l7Cyclic.l2]
  have hlen : p.length < row.length:=by rw [e];simp
  have hrd : rd row (p.length : Int) = x:=by rw [e];exact rd_mid _ _ _
  have hx:=hin x (by rw [e];simp)
  refine Ev.ite_pos (by omega) (Ev.ite_pos (by omega) (Ev.ite_pos (by omega) ?_))
  rw [hrd,wrap_succ (by omega)]
  cases b with
  | true => exact Ev.ite_pos rfl (ih true (by rw [List.any_append,← hb];rfl))
  | false =>
   refine Ev.ite_neg (by simp) (Ev.bind (l1Has_ev left x (by omega)) ?_)
   by_cases hc : x ∈ left
   ·refine Ev.ite_pos (by simpa using hc) (Ev.ite_pos h0 (Ev.ite_pos (by rw [tab_length];omega) ?_))
    rw [show rd_L1 (tab g.length (domL g g.length)) k0 = domL g g.length k0 from tab_getD _ h0 h1 _]
    refine Ev.bind (l1Has_ev _ _ (by have:=domL_len g g.length k0;omega)) ?_
    rw [domL_mem hx.1 hx.2]
    exact ih _ (by rw [List.any_append,← hb];simp [hc])
   ·exact Ev.ite_neg (by simpa using hc) (ih false (by rw [List.any_append,← hb];simp [hc]))
theorem filter_full {p : Int → Bool} : ∀ l : List Int,(l.filter p).length = l.length → ∀ x ∈ l,p x = true
 | [],_,x,hx => by simp at hx
 | y :: q,h,x,hx => by
  have hle:=List.length_filter_le p q
  rw [List.filter_cons] at h
  by_cases hy : p y = true
  ·rw [if_pos hy] at h
   simp only [List.length_cons] at h
   rcases List.mem_cons.1 hx with rfl | hx
   ·exact hy
   ·exact filter_full q (by omega) x hx
  ·rw [if_neg hy] at h
   simp only [List.length_cons] at h
   omega
theorem sCyc_ev {g : List (List Int)} (hg : GG g) : ∀ (m : Nat) (left : List Int),left.length ≤ m → OkS g.length left → (∀ k ∈ left,k ∈ leftG g []) →
  (∀ C : Int → Prop,(∀ k,C k → k ∈ leftG g []) → (∀ k,C k → ∃ x ∈ fwd g k,C x) → ∀ k,C k → k ∈ left) →
  Ev (fun k => spec_l7Cyclic.l0 k (tab g.length (domL g g.length)) left g) (cycB g)
 | m,left,hm,hok,hsub,hcyc => by
  have hll:=hok.le
  have hhi:=hg.hi
  refine Ev.succ ?_
  simp only [spec_l7Cyclic.l0]
  have main:=Ev.rangeI left (fun k b j => spec_l7Cyclic.l1 k (tab g.length (domL g g.length)) left b left (left.length : Int) j g) (fun _ _ _ => cycB g) (fun b p => b = p.filter (leadB g left)) (fun b hb => ?_) (fun b p x q e hb ih => ?_) ([] : List Int) (by simp)
  ·exact main
  ·refine Ev.succ ?_
   simp only [spec_l7Cyclic.l1]
   refine Ev.ite_neg (by omega) ?_
   have hlf:=List.length_filter_le (leadB g left) left
   rw [← hb] at hlf
   by_cases he : b.length = left.length
   ·refine Ev.ite_pos (by omega) (Ev.some ?_)
    rw [hb] at he
    have hall:=filter_full left he
    cases hleft : left with
    | nil =>
     have hf : cycB g ≠ true:=fun h => by
      obtain ⟨k,hk,x,hx,hd⟩:=(cycB_iff hg).1 h
      have hkn:=(leftG_ok hg []).2 k hk
      have hxn:=fwd_in hg hkn.1 hkn.2 hx
      have hcl : ∀ y z,Star (stepG (nxG g) []) y z → y ∈ leftG g [] → z ∈ leftG g []:=by
       intro y z hst
       induction hst with
       | refl y => exact fun h => h
       | step h1 _ ih =>
        intro hy
        refine ih ?_
        have hyn:=(leftG_ok hg []).2 _ hy
        have h2:=h1.1
        rw [nxG_row hyn.1 hyn.2] at h2
        rw [leftG_iff hg (by simp)] at hy ⊢
        exact hy.snoc ⟨(List.mem_filter.1 h2).1,by simp⟩
      have hxl : x ∈ leftG g []:=hcl k x (.step ⟨by rw [nxG_row hkn.1 hkn.2];exact hx,by simp⟩ (.refl _)) hk
      have:=hcyc (fun y => Star (stepG (nxG g) []) x y ∧ Star (stepG (nxG g) []) y k) (fun y hy => hcl x y hy.1 hxl) (fun y hy => ?_) k ⟨(downG_iff hg hxn.1 hxn.2 k).1 hd,.refl _⟩
      ·rw [hleft] at this;simp at this
      ·obtain ⟨h1,h2⟩:=hy
       cases h2 with
       | refl => exact ⟨x,hx,.refl _,(downG_iff hg hxn.1 hxn.2 _).1 hd⟩
       | step h3 h4 =>
        rename_i z
        have hyl:=hcl x y h1 hxl
        have hyn:=(leftG_ok hg []).2 _ hyl
        have h5:=h3.1
        rw [nxG_row hyn.1 hyn.2] at h5
        exact ⟨z,h5,h1.snoc h3,h4⟩
     simp at hf
     rw [hf];simp
    | cons a rest =>
     have ht : cycB g = true:=by
      rw [cycB_iff hg]
      obtain ⟨k',hk',x,hx,hd⟩:=cyc_of_lead hg left hok.2 (fun k hk => leadB_iff.1 (hall k hk)) _ a (by rw [hleft];simp) (Nat.le_refl _)
      exact ⟨k',hsub k' hk',x,hx,hd⟩
     rw [ht];simp
   ·refine Ev.ite_neg (by omega) ?_
    have hbf : ∀ k,k ∈ b ↔ k ∈ left ∧ leadB g left k = true:=fun k => by rw [hb,List.mem_filter]
    cases m with
    | zero => omega
    | succ m =>
     refine sCyc_ev hg m b (by omega) ⟨by rw [hb];exact hok.1.filter _,fun x hx => hok.2 x ((hbf x).1 hx).1⟩ (fun k hk => hsub k ((hbf k).1 hk).1) (fun C h1 h2 k hk => ?_)
     have hCl:=hcyc C h1 h2
     obtain ⟨x,hx,hCx⟩:=h2 k hk
     exact (hbf k).2 ⟨hCl k hk,leadB_iff.2 ⟨x,hx,hCl x hCx⟩⟩
  ·refine Ev.succ ?_
   simp only [spec_l7Cyclic.l1]
   have hlen : p.length < left.length:=by rw [e];simp
   have hrd : rd left (p.length : Int) = x:=by rw [e];exact rd_mid _ _ _
   have hx:=hok.2 x (by rw [e];simp)
   have hbl:=List.length_filter_le (leadB g left) p
   rw [← hb] at hbl
   refine Ev.ite_pos (by omega) (Ev.ite_pos (by omega) (Ev.ite_pos (by omega) ?_))
   rw [hrd]
   refine Ev.ite_pos hx.1 (Ev.ite_pos hx.2 ?_)
   refine sLead_ev hg left b left (left.length : Int) (p.length : Int) hok x hx.1 hx.2 (by omega) ?_
   rw [wrap_succ (by omega)]
   refine ih _ ?_
   rw [List.filter_append,← hb]
   cases hlb : leadB g left x <;> simp [hlb]
theorem sRed_ev {g : List (List Int)} (hg : GG g) : Ev (fun k => spec_l7Cyclic.f k g (tab g.length (domL g g.length))) (cycB g):=by
 unfold spec_l7Cyclic.f
 refine Ev.bind (sWithout_ev hg (-1) [] (fun x h => by simp;omega)) ?_
 have hok:=leftG_ok hg []
 exact sCyc_ev hg _ _ (Nat.le_refl _) hok (fun _ h => h) (fun C h1 _ k hk => h1 k hk)
/-- The program's way. -/
theorem iNext_ev {g : List (List Int)} (hg : GG g) (m : Nat) (hm : m < g.length) {r : Bool}
  (hnext : Ev (fun k => impl_Graph_reducible.l0 k g (tab g.length (fun b : Int => tab g.length (fun d : Int => domB g d b))) (tab g.length (fun b : Int => if b < ((m + 1 : Nat) : Int) then fwd g b else [])) ((m : Int) + 1)) r) :
  Ev (fun k => impl_Graph_reducible.l1 k g (tab g.length (fun b : Int => tab g.length (fun d : Int => domB g d b))) (tab g.length (fun b : Int => if b < (m : Int) then fwd g b else [])) (m : Int) (rowG g m) 0) r:=by
 have hhi:=hg.hi
 have hr:=rowG_mem (g:=g) (x:=m) (by omega) (by omega)
 have hrow:=hg.row _ hr
 have hin:=hg.inn _ hr
 have hfw : fwd g m = (rowG g m).filter (fun x => !domB g x m):=rfl
 generalize rowG g m = row at hrow hin hfw ⊢
 have main:=Ev.rangeI row (fun k x j => impl_Graph_reducible.l1 k g (tab g.length (fun b : Int => tab g.length (fun d : Int => domB g d b))) x (m : Int) row j) (fun _ _ _ => r) (fun x p => x = tab g.length (fun b : Int => if b = (m : Int) then p.filter (fun x => !domB g x m) else if b < (m : Int) then fwd g b else [])) (fun x hx => ?_) (fun x p y q e hx ih2 => ?_) (tab g.length (fun b : Int => if b < (m : Int) then fwd g b else [])) (tab_congr fun b _ _ => ?_)
 ·exact main
 ·refine Ev.succ ?_
  simp only [impl_Graph_reducible.l1]
  refine Ev.ite_neg (by omega) ?_
  rw [wrap_succ (by omega),hx]
  rw [show tab g.length (fun b : Int => if b = (m : Int) then row.filter (fun x => !domB g x m) else if b < (m : Int) then fwd g b else []) = tab g.length (fun b : Int => if b < ((m + 1 : Nat) : Int) then fwd g b else []) from ?_]
  ·exact hnext
  ·refine tab_congr fun b _ _ => ?_
   by_cases hb : b = m
   ·rw [if_pos hb,if_pos (by omega),hb,hfw]
   ·rw [if_neg hb]
    by_cases h : b < (m : Int)
    ·rw [if_pos h,if_pos (by omega)]
    ·rw [if_neg h,if_neg (by omega)]
 ·refine Ev.succ ?_
  simp only [impl_Graph_reducible.l1]
  have hlen : p.length < row.length:=by rw [e];simp
  have hrd : rd row (p.length : Int) = y:=by rw [e];exact rd_mid _ _ _
  have hy:=hin y (by rw [e];simp)
  have hpl:=List.length_filter_le (fun x => !domB g x m) p
  refine Ev.ite_pos (by omega) (Ev.ite_pos (by omega) (Ev.ite_pos (by rw [tab_length];omega) ?_))
  rw [hrd,tab_getD _ (by omega) (by omega)]
  refine Ev.ite_pos hy.1 (Ev.ite_pos (by rw [tab_length];exact hy.2) ?_)
  rw [show rdOf false (tab g.length (fun d : Int => domB g d m)) y = domB g y m from tab_getD _ hy.1 hy.2 _,wrap_succ (by omega)]
  by_cases hd : domB g y m = true
  ·refine Ev.ite_pos hd (ih2 _ ?_)
   rw [hx]
   refine tab_congr fun b _ _ => ?_
   rw [List.filter_append]
   simp [hd]
  ·have hg0 : x.getD (m : Int).toNat [] = p.filter (fun x => !domB g x m):=by
    rw [hx,tab_getD _ (by omega) (by omega),if_pos rfl]
   refine Ev.ite_neg hd (Ev.ite_pos (by rw [hx,tab_length];omega) ?_)
   rw [hg0]
   refine Ev.ite_pos (by omega) (ih2 _ ?_)
   rw [hx,tab_set _ (by omega)]
   refine tab_congr fun b _ _ => ?_
   rw [List.filter_append]
   by_cases hb : b = m
   ·rw [if_pos hb,if_pos hb];simp [hd]
   ·rw [if_neg hb,if_neg hb,if_neg hb]
 ·by_cases hb : b = m
  ·rw [if_pos hb,if_neg (by omega)];simp
  ·rw [if_neg hb]
theorem iRed_ev {g : List (List Int)} (hg : GG g) : Ev (fun k => impl_Graph_reducible.f k g) (!cycB g):=by
 have hhi:=hg.hi
 unfold impl_Graph_reducible.f
 refine Ev.ite_pos (by omega) (Ev.bind (iDoms_ev hg) ?_)
 have e0 : List.replicate g.length ([] : List Int) = tab g.length (fun b : Int => if b < ((0 : Nat) : Int) then fwd g b else []):=by
  rw [tab_rep]
  exact tab_congr fun b h _ => by rw [if_neg (by omega)]
 rw [e0]
 refine Ev.count g.length (fun k x i => impl_Graph_reducible.l0 k g (tab g.length (fun b : Int => tab g.length (fun d : Int => domB g d b))) x i) (fun m => tab g.length (fun b : Int => if b < (m : Int) then fwd g b else [])) _ ?_ (fun m hm ih => ?_)
 ·refine Ev.succ ?_
  simp only [impl_Graph_reducible.l0]
  have e1 : tab g.length (fun b : Int => if b < ((g.length : Nat) : Int) then fwd g b else []) = nxG g:=tab_congr fun b _ hb => by rw [if_pos hb]
  refine Ev.ite_neg (by omega) (Ev.bind (iReach_ev hg [] (by simp)) (Ev.bind (listOf_ev g.length (by omega) _) ?_))
  rw [e1]
  have hgw:=nxG_ok hg
  have hL : ∀ k ∈ (upto g.length).filter (fun k => decide (k ∈ leftG g [])),0 ≤ k ∧ k < g.length:=fun k hk => upto_mem.1 (List.mem_filter.1 hk).1
  have hll:=List.length_filter_le (fun k => decide (k ∈ leftG g [])) (upto g.length)
  rw [upto_length] at hll
  unfold cycB
  generalize (upto g.length).filter (fun k => decide (k ∈ leftG g [])) = L at hL hll
  refine Ev.rangeI L (fun k (_ : Unit) j => impl_Graph_reducible.l2 k (nxG g) L j) (fun _ _ _ => !(L.any fun k => (fwd g k).any fun x => decide (k ∈ downG g x))) (fun _ p => (p.any fun k => (fwd g k).any fun x => decide (k ∈ downG g x)) = false) (fun _ hb => ?_) (fun _ p x q e hb ih => ?_) () (by simp)
  ·refine Ev.succ ?_
   simp only [impl_Graph_reducible.l2]
   refine Ev.ite_neg (by omega) (Ev.some ?_)
   rw [hb];rfl
  ·refine Ev.succ ?_
   simp only [impl_Graph_reducible.l2]
   have hlen : p.length < L.length:=by rw [e];simp
   have hrd : rd L (p.length : Int) = x:=by rw [e];exact rd_mid _ _ _
   have hx:=hL x (by rw [e];simp)
   refine Ev.ite_pos (by omega) (Ev.ite_pos (by omega) ?_)
   rw [hrd]
   refine Ev.ite_pos hx.1 (Ev.ite_pos (by rw [nxG_len];exact hx.2) ?_)
   have hfl:=fwd_len hg hx.1 hx.2
   have hfi : ∀ y ∈ fwd g x,0 ≤ y ∧ y < g.length:=fun y hy => fwd_in hg hx.1 hx.2 hy
   change Ev (fun k => impl_Graph_reducible.l3 k (nxG g) L (p.length : Int) (rowG (nxG g) x) 0) _
   rw [nxG_row hx.1 hx.2]
   have key : (L.any fun k => (fwd g k).any fun y => decide (k ∈ downG g y)) = (((fwd g x).any fun y => decide (x ∈ downG g y)) || (q.any fun k => (fwd g k).any fun y => decide (k ∈ downG g y))):=by
    rw [e,List.any_append,hb,List.any_cons,Bool.false_or]
   have hb2 : (fwd g x).any (fun y => decide (x ∈ downG g y)) = false → ((p ++ [x]).any fun k => (fwd g k).any fun y => decide (k ∈ downG g y)) = false:=fun h => by
    rw [List.any_append,hb,List.any_cons,h];rfl
   generalize hW : (fwd g x) = row at hfl hfi hb2 key ⊢
   clear hW
   refine Ev.rangeI row (fun k (_ : Unit) j => impl_Graph_reducible.l3 k (nxG g) L (p.length : Int) row j) (fun _ _ _ => !(L.any fun k => (fwd g k).any fun y => decide (k ∈ downG g y))) (fun _ p2 => (p2.any fun y => decide (x ∈ downG g y)) = false) (fun _ hb3 => ?_) (fun _ p2 y q2 e2 hb3 ih3 => ?_) () (by simp)
   ·refine Ev.succ ?_
    simp only [impl_Graph_reducible.l3]
    refine Ev.ite_neg (by omega) ?_
    rw [wrap_succ (by omega)]
    exact ih () (hb2 hb3)
   ·refine Ev.succ ?_
    simp only [impl_Graph_reducible.l3]
    have hlen2 : p2.length < row.length:=by rw [e2];simp
    have hrd2 : rd row (p2.length : Int) = y:=by rw [e2];exact rd_mid _ _ _
    have hy:=hfi y (by rw [e2];simp)
    refine Ev.ite_pos (by omega) (Ev.ite_pos (by omega) ?_)
    rw [hrd2,hrd]
    refine Ev.bind (iReach1_ev hgw y hy.1 (by rw [nxG_len];exact hy.2)) ?_
    rw [nxG_len]
    refine Ev.ite_pos hx.1 (Ev.ite_pos (by unfold boolsG;rw [tab_length];exact hx.2) ?_)
    rw [boolsG_rd _ hx.1 hx.2,wrap_succ (by omega)]
    by_cases hd : x ∈ downG g y
    ·refine Ev.ite_pos (by simpa [downG] using hd) (Ev.some ?_)
     rw [key,e2,List.any_append,List.any_cons,decide_eq_true hd];simp
    ·refine Ev.ite_neg (by simpa [downG] using hd) (ih3 () ?_)
     rw [List.any_append,hb3,List.any_cons,decide_eq_false hd];rfl
 ·refine Ev.succ ?_
  simp only [impl_Graph_reducible.l0]
  refine Ev.ite_pos (by omega) (Ev.ite_pos (by omega) ?_)
  exact iNext_ev hg m hm ih

/-- The starts of the edges to h. -/
def stOf (es : List (List Int)) (h : Int) : List Int:=(es.filter (fun e => decide (rd e 1 = h))).map (fun e => rd e 0)
theorem stOf_nil (h : Int) : stOf [] h = []:=rfl
theorem stOf_snoc (es : List (List Int)) (e : List Int) (h : Int) : stOf (es ++ [e]) h = stOf es h ++ (if rd e 1 = h then [rd e 0] else []):=by
 unfold stOf
 rw [List.filter_append,List.map_append]
 congr 1
 by_cases c : rd e 1 = h <;> simp [c]
theorem stOf_mem {es : List (List Int)} {h s : Int} : s ∈ stOf es h ↔ ∃ e ∈ es,rd e 1 = h ∧ rd e 0 = s:=by
 unfold stOf
 rw [List.mem_map]
 constructor
 ·rintro ⟨e,he,rfl⟩
  rw [List.mem_filter,decide_eq_true_iff] at he
  exact ⟨e,he.1,he.2,rfl⟩
 ·rintro ⟨e,he,h1,h2⟩
  exact ⟨e,List.mem_filter.2 ⟨he,by simpa using h1⟩,h2⟩
theorem stOf_len (es : List (List Int)) (h : Int) : (stOf es h).length ≤ es.length:=by
 unfold stOf
 rw [List.length_map]
 exact List.length_filter_le _ _
/-- An edge back: both ends lie in the graph, the start is reached. -/
structure EdgeOk (g : List (List Int)) (e : List Int) : Prop where
 len : e.length = 2
 s0 : 0 ≤ rd e 0
 s1 : rd e 0 < g.length
 t0 : 0 ≤ rd e 1
 t1 : rd e 1 < g.length
 at_ : rd e 0 ∈ leftG g []
theorem backRow_ok {g : List (List Int)} (hg : GG g) (i : Int) (h0 : 0 ≤ i) (h1 : i < g.length) : ∀ q : List Int,(∀ x ∈ q,0 ≤ x ∧ x < g.length) → ∀ e ∈ backRow g i q,EdgeOk g e
 | [],_,e,he => by simp [backRow] at he
 | x :: q,hq,e,he => by
  rw [backRow] at he
  rcases List.mem_append.1 he with he | he
  ·by_cases hd : domB g x i = true
   ·rw [if_pos hd,List.mem_singleton] at he
    subst he
    have hx:=hq x (by simp)
    unfold domB at hd
    rw [Bool.and_eq_true,Bool.and_eq_true,decide_eq_true_iff,decide_eq_true_iff] at hd
    exact ⟨rfl,h0,h1,hx.1,hx.2,hd.2.1⟩
   ·rw [if_neg hd] at he;simp at he
  ·exact backRow_ok hg i h0 h1 q (fun y hy => hq y (by simp [hy])) e he
theorem backAll_ok {g : List (List Int)} (hg : GG g) : ∀ m : Nat,m ≤ g.length → ∀ e ∈ backAll g m,EdgeOk g e
 | 0,_,e,he => by simp [backAll] at he
 | m + 1,h,e,he => by
  rw [backAll] at he
  rcases List.mem_append.1 he with he | he
  ·exact backAll_ok hg m (by omega) e he
  ·exact backRow_ok hg m (by omega) (by omega) _ (hg.inn _ (rowG_mem (by omega) (by omega))) e he
def esG (g : List (List Int)) : List (List Int):=backAll g g.length
theorem esG_ok {g : List (List Int)} (hg : GG g) : ∀ e ∈ esG g,EdgeOk g e:=backAll_ok hg g.length (Nat.le_refl _)
theorem esG_len {g : List (List Int)} (hg : GG g) : (esG g).length ≤ 144:=by
 have:=(backAll_len2 hg g.length (Nat.le_refl _)).1
 have:=hg.hi
 unfold esG
 omega
/-- Whether k lies in the body of h's loop. -/
def inB (g : List (List Int)) (h k : Int) : Bool:=decide (k = h) || (decide (k ∈ leftG g []) && (stOf (esG g) h).any (fun s => decide (s ≠ h) && decide (s ∈ walkG g [h] (g.length + 1) [k] 0)))
def bodyL (g : List (List Int)) (h : Int) : List Int:=(upto g.length).filter (inB g h)
theorem inB_iff {g : List (List Int)} (hg : GG g) {h k : Int} (h0 : 0 ≤ k) (h1 : k < g.length) : inB g h k = true ↔ k = h ∨ (k ∈ leftG g [] ∧ ∃ s ∈ stOf (esG g) h,s ≠ h ∧ Star (stepG g [h]) k s):=by
 unfold inB
 rw [Bool.or_eq_true,decide_eq_true_iff,Bool.and_eq_true,decide_eq_true_iff,List.any_eq_true]
 refine or_congr Iff.rfl (and_congr Iff.rfl ⟨?_,?_⟩)
 ·rintro ⟨s,hs,h2⟩
  rw [Bool.and_eq_true,decide_eq_true_iff,decide_eq_true_iff] at h2
  exact ⟨s,hs,h2.1,(walkG_iff hg.toGW [h] h0 h1 s).1 h2.2⟩
 ·rintro ⟨s,hs,h2,h3⟩
  exact ⟨s,hs,by rw [Bool.and_eq_true,decide_eq_true_iff,decide_eq_true_iff];exact ⟨h2,(walkG_iff hg.toGW [h] h0 h1 s).2 h3⟩⟩
/-- One node, whether it is put into a body. -/
def grow1 (g : List (List Int)) (h : Int) (s : List Int) (k : Int) : List Int:=if k ∈ s then s else (if (rowG g k).any (fun x => decide (x ≠ h) && decide (x ∈ s)) then s ++ [k] else s)
def growAll (g : List (List Int)) (h : Int) : List Int → List Int → List Int
 | s,[] => s
 | s,k :: q => growAll g h (grow1 g h s k) q
theorem grow1_sup (g : List (List Int)) (h : Int) (s : List Int) (k : Int) : s.length ≤ (grow1 g h s k).length ∧ ∀ x ∈ s,x ∈ grow1 g h s k:=by
 unfold grow1
 split
 ·exact ⟨Nat.le_refl _,fun x h => h⟩
 ·split
  ·exact ⟨by simp,fun x h => by simp [h]⟩
  ·exact ⟨Nat.le_refl _,fun x h => h⟩
theorem growAll_sup (g : List (List Int)) (h : Int) : ∀ (q s : List Int),s.length ≤ (growAll g h s q).length ∧ ∀ x ∈ s,x ∈ growAll g h s q
 | [],s => ⟨Nat.le_refl _,fun x h => h⟩
 | k :: q,s => by
  rw [growAll]
  have h1:=grow1_sup g h s k
  have h2:=growAll_sup g h q (grow1 g h s k)
  exact ⟨Nat.le_trans h1.1 h2.1,fun x hx => h2.2 x (h1.2 x hx)⟩
theorem growAll_same (g : List (List Int)) (h : Int) : ∀ (q s : List Int),(growAll g h s q).length = s.length → growAll g h s q = s ∧ ∀ k ∈ q,grow1 g h s k = s
 | [],s,_ => ⟨rfl,by simp⟩
 | k :: q,s,e => by
  rw [growAll] at e ⊢
  have h1:=grow1_sup g h s k
  have h2:=growAll_sup g h q (grow1 g h s k)
  have e1 : grow1 g h s k = s:=by
   have hle : (grow1 g h s k).length = s.length:=by omega
   unfold grow1 at hle ⊢
   split
   ·rfl
   ·rename_i hk
    rw [if_neg hk] at hle
    split
    ·rename_i ha
     rw [if_pos ha] at hle
     simp at hle
    ·rfl
  rw [e1] at e ⊢
  have h3:=growAll_same g h q s e
  refine ⟨h3.1,fun y hy => ?_⟩
  rcases List.mem_cons.1 hy with rfl | hy
  ·exact e1
  ·exact h3.2 y hy
/-- What a body holds while it grows: of what belongs to it. -/
structure Grows (g : List (List Int)) (h : Int) (s : List Int) : Prop where
 hd : h ∈ s
 st : ∀ x ∈ stOf (esG g) h,x ∈ s
 in_ : ∀ x ∈ s,(0 ≤ x ∧ x < g.length) ∧ inB g h x = true
theorem Grows.start {g : List (List Int)} (hg : GG g) {h : Int} (h0 : 0 ≤ h) (h1 : h < g.length) : Grows g h (h :: stOf (esG g) h):=by
 refine ⟨by simp,fun x hx => by simp [hx],fun x hx => ?_⟩
 rcases List.mem_cons.1 hx with rfl | hx
 ·exact ⟨⟨h0,h1⟩,by unfold inB;simp⟩
 ·obtain ⟨e,he,_,rfl⟩:=stOf_mem.1 hx
  have ho:=esG_ok hg e he
  refine ⟨⟨ho.s0,ho.s1⟩,(inB_iff hg ho.s0 ho.s1).2 ?_⟩
  by_cases c : rd e 0 = h
  ·exact .inl c
  ·exact .inr ⟨ho.at_,rd e 0,hx,c,.refl _⟩
theorem Grows.grow {g : List (List Int)} (hg : GG g) {h : Int} {s : List Int} (H : Grows g h s) {k : Int} (hk : k ∈ leftG g []) : Grows g h (grow1 g h s k):=by
 have hb:=(leftG_ok hg []).2 k hk
 unfold grow1
 split
 ·exact H
 ·split
  ·rename_i hks ha
   rw [List.any_eq_true] at ha
   obtain ⟨x,hx,h2⟩:=ha
   rw [Bool.and_eq_true,decide_eq_true_iff,decide_eq_true_iff] at h2
   have hxi:=H.in_ x h2.2
   refine ⟨by simp [H.hd],fun y hy => by simp [H.st y hy],fun y hy => ?_⟩
   rcases List.mem_append.1 hy with hy | hy
   ·exact H.in_ y hy
   ·rw [List.mem_singleton] at hy
    subst hy
    refine ⟨hb,(inB_iff hg hb.1 hb.2).2 (.inr ⟨hk,?_⟩)⟩
    rcases (inB_iff hg hxi.1.1 hxi.1.2).1 hxi.2 with e | ⟨_,s',hs',hne,hst⟩
    ·exact absurd e h2.1
    ·exact ⟨s',hs',hne,.step ⟨hx,by simpa using h2.1⟩ hst⟩
  ·exact H
theorem Grows.growAll {g : List (List Int)} (hg : GG g) {h : Int} : ∀ (q s : List Int),Grows g h s → (∀ k ∈ q,k ∈ leftG g []) → Grows g h (growAll g h s q)
 | [],_,H,_ => H
 | k :: q,s,H,hq => Grows.growAll hg q _ (H.grow hg (hq k (by simp))) (fun y hy => hq y (by simp [hy]))
/-- What grows no more is the body. -/
theorem Grows.done {g : List (List Int)} (hg : GG g) {h : Int} {s : List Int} (H : Grows g h s) (hc : ∀ k ∈ leftG g [],grow1 g h s k = s) : srt g.length s = bodyL g h:=by
 have hcl : ∀ k ∈ leftG g [],∀ x ∈ rowG g k,x ≠ h → x ∈ s → k ∈ s:=by
  intro k hk x hx hxh hxs
  have e:=hc k hk
  unfold grow1 at e
  by_cases hks : k ∈ s
  ·exact hks
  ·rw [if_neg hks,if_pos (List.any_eq_true.2 ⟨x,hx,by simp [hxh,hxs]⟩)] at e
   have:=congrArg List.length e
   simp at this
 refine srt_congr fun x h0 h1 => ⟨fun hx => (H.in_ x hx).2,fun hx => ?_⟩
 rcases (inB_iff hg h0 h1).1 hx with rfl | ⟨hl,s',hs',hne,hst⟩
 ·exact H.hd
 ·have hs2:=H.st s' hs'
  clear hx h0 h1
  induction hst with
  | refl a => exact hs2
  | step hr _ ih =>
   rename_i a b c _
   have hb : b ∈ leftG g []:=(leftG_iff hg (by simp) b).2 (((leftG_iff hg (by simp) a).1 hl).snoc ⟨hr.1,by simp⟩)
   exact hcl a hl b hr.1 (by simpa using hr.2) (ih hb hs' hne hs2)

/-- The loops by their heads below m, nothing around them yet. -/
def loops0 (g : List (List Int)) : Nat → List S58
 | 0 => []
 | m + 1 => loops0 g m ++ (if stOf (esG g) m = [] then [] else [⟨m,bodyL g m,-1⟩])
def hasAll (a b : List Int) : Bool:=b.all (fun x => decide (x ∈ a))
def up1 (out : List S58) (i j : Int) : List S58:=if i = j then out else (if hasAll (rd_T58 out j).f1 (rd_T58 out i).f1 = true then (if (rd_T58 out i).f2 < 0 then out.set i.toNat ⟨(rd_T58 out i).f0,(rd_T58 out i).f1,j⟩ else (if ((rd_T58 out j).f1.length : Int) < ((rd_T58 out (rd_T58 out i).f2).f1.length : Int) then out.set i.toNat ⟨(rd_T58 out i).f0,(rd_T58 out i).f1,j⟩ else out)) else out)
def upRow (out : List S58) (i : Int) : Nat → List S58
 | 0 => out
 | m + 1 => up1 (upRow out i m) i m
def upAll (out : List S58) (n : Nat) : Nat → List S58
 | 0 => out
 | m + 1 => upRow (upAll out n m) m n
def loopsG (g : List (List Int)) : List S58:=upAll (loops0 g g.length) (loops0 g g.length).length (loops0 g g.length).length
/-- Loops that lie in each other, no more than n. -/
def LOk (n : Nat) (out : List S58) : Prop:=out.length = n ∧ ∀ x ∈ out,x.f2 < n ∧ x.f1.length ≤ 12
theorem rdT_mem {out : List S58} {i : Int} (h0 : 0 ≤ i) (h1 : i < out.length) : rd_T58 out i ∈ out:=by
 unfold rd_T58
 rw [List.getD_eq_getElem?_getD,List.getElem?_eq_getElem (by omega)]
 exact List.getElem_mem _
theorem LOk.set {n : Nat} {out : List S58} (h : LOk n out) {i j : Int} (h0 : 0 ≤ i) (h1 : i < n) (hj : j < n) : LOk n (out.set i.toNat ⟨(rd_T58 out i).f0,(rd_T58 out i).f1,j⟩):=by
 refine ⟨by rw [List.length_set];exact h.1,fun x hx => ?_⟩
 rcases List.mem_or_eq_of_mem_set hx with hx | rfl
 ·exact h.2 x hx
 ·exact ⟨hj,(h.2 _ (rdT_mem h0 (by rw [h.1];exact h1))).2⟩
theorem LOk.up1 {n : Nat} {out : List S58} (h : LOk n out) {i j : Int} (h0 : 0 ≤ i) (h1 : i < n) (hj : j < n) : LOk n (up1 out i j):=by
 unfold Pure.up1
 split
 ·exact h
 ·split
  ·split
   ·exact h.set h0 h1 hj
   ·split
    ·exact h.set h0 h1 hj
    ·exact h
  ·exact h
theorem LOk.upRow {n : Nat} {out : List S58} (h : LOk n out) {i : Int} (h0 : 0 ≤ i) (h1 : i < n) : ∀ m,m ≤ n → LOk n (upRow out i m)
 | 0,_ => h
 | m + 1,hm => (LOk.upRow h h0 h1 m (by omega)).up1 h0 h1 (by omega)
theorem LOk.upAll {n : Nat} {out : List S58} (h : LOk n out) : ∀ m,m ≤ n → LOk n (upAll out n m)
 | 0,_ => h
 | m + 1,hm => (LOk.upAll h m (by omega)).upRow (by omega) (by omega) n (Nat.le_refl _)
theorem bodyL_len {g : List (List Int)} (hg : GG g) (h : Int) : (bodyL g h).length ≤ 12:=by
 have:=List.length_filter_le (inB g h) (upto g.length)
 rw [upto_length] at this
 have:=hg.hi
 unfold bodyL
 omega
theorem loops0_ok {g : List (List Int)} (hg : GG g) : ∀ m : Nat,m ≤ g.length → (loops0 g m).length ≤ m ∧ ∀ x ∈ loops0 g m,x.f2 = -1 ∧ x.f1.length ≤ 12
 | 0,_ => by simp [loops0]
 | m + 1,h => by
  have ih:=loops0_ok hg m (by omega)
  rw [loops0]
  split
  ·rw [List.append_nil];exact ⟨by omega,ih.2⟩
  ·rw [List.length_append,List.length_singleton]
   refine ⟨by omega,fun x hx => ?_⟩
   rcases List.mem_append.1 hx with hx | hx
   ·exact ih.2 x hx
   ·rw [List.mem_singleton] at hx
    subst hx
    exact ⟨rfl,bodyL_len hg _⟩
theorem loops0_LOk {g : List (List Int)} (hg : GG g) : LOk (loops0 g g.length).length (loops0 g g.length):=⟨rfl,fun x hx => by
 have:=(loops0_ok hg g.length (Nat.le_refl _)).2 x hx
 exact ⟨by omega,this.2⟩⟩
theorem loopsG_LOk {g : List (List Int)} (hg : GG g) : LOk (loops0 g g.length).length (loopsG g):=(loops0_LOk hg).upAll _ (Nat.le_refl _)
theorem l8Has_ev (a b : List Int) (ha : a.length ≤ 1000) (hb : b.length ≤ 1000) : Ev (fun k => spec_l8Has.f k a b) (hasAll a b):=by
 unfold spec_l8Has.f
 refine Ev.rangeI b (fun k (_ : Unit) i => spec_l8Has.l0 k a b (b.length : Int) i) (fun _ _ _ => hasAll a b) (fun _ p => hasAll a p = true) (fun _ hp => ?_) (fun _ p y q e hp ih => ?_) () (by rfl)
 ·refine Ev.succ ?_
  simp only [spec_l8Has.l0]
  exact Ev.ite_neg (by omega) (Ev.some hp.symm)
 ·refine Ev.succ ?_
  simp only [spec_l8Has.l0]
  have hlen : p.length < b.length:=by rw [e];simp
  have hr : rd b (p.length : Int) = y:=by rw [e];exact rd_mid _ _ _
  refine Ev.ite_pos (by omega) (Ev.ite_pos (by omega) (Ev.ite_pos (by omega) ?_))
  rw [hr]
  refine Ev.bind (l1Has_ev a y (by omega)) ?_
  by_cases h : y ∈ a
  ·refine Ev.ite_pos (by simpa using h) ?_
   rw [wrap_succ (by omega)]
   refine ih () ?_
   unfold hasAll at hp ⊢
   rw [List.all_append,hp]
   simp [h]
  ·refine Ev.ite_neg (by simpa using h) (Ev.some ?_)
   unfold hasAll
   rw [e,List.all_append]
   simp [h]
theorem holdsAll_ev (a b : List Int) (ha : a.length ≤ 1000) (hb : b.length ≤ 1000) : Ev (fun k => impl_holdsAll.f k a b) (hasAll a b):=by
 unfold impl_holdsAll.f
 have h : Ev (fun k => impl_holdsAll_1_ix.l0 k a b 0) (match b.findIdx? (fun y => !decide (y ∈ a)) with | some j => (j : Int) | none => -1):=by
  refine Ev.index b (fun k i => impl_holdsAll_1_ix.l0 k a b i) (fun y => !decide (y ∈ a)) ?_ (fun p y q e hp => ?_) (fun p y q r e hp ih => ?_)
  ·refine Ev.succ ?_
   simp only [impl_holdsAll_1_ix.l0]
   exact Ev.ite_neg (by omega) (Ev.some rfl)
  all_goals
   have hlen : p.length < b.length:=by rw [e];simp
   have hr : rd b (p.length : Int) = y:=by rw [e];exact rd_mid _ _ _
   refine Ev.succ ?_
   simp only [impl_holdsAll_1_ix.l0,impl_holdsAll_1.f]
   refine Ev.ite_pos (by omega) (Ev.ite_pos (by omega) ?_)
   rw [hr]
   refine Ev.bind (Ev.bind (contains_ev a y (by omega)) (Ev.now _)) ?_
  ·exact Ev.ite_pos (by simpa using hp) (Ev.some rfl)
  ·refine Ev.ite_neg (by simpa using hp) ?_
   rw [wrap_succ (by omega)]
   exact ih
 refine Ev.bind h (Ev.some ?_)
 rw [findIdx_any]
 unfold hasAll
 rw [Bool.eq_iff_iff]
 simp
theorem sUp_row {n : Nat} {i : Nat} (hi : i < n) (hn : n ≤ 12) {out : List S58} (h : LOk n out) {r : List S58 × Bool}
  (hnext : Ev (fun k => spec_l8Loops.l6 k (upRow out i n) (n : Int) ((i : Int) + 1)) r) : Ev (fun k => spec_l8Loops.l7 k out i (n : Int) i (n : Int) 0) r:=by
 refine Ev.count n (fun k out j => spec_l8Loops.l7 k out i (n : Int) i (n : Int) j) (fun m => upRow out i m) r ?_ (fun m hm ih => ?_)
 ·refine Ev.succ ?_
  simp only [spec_l8Loops.l7]
  refine Ev.ite_neg (by omega) ?_
  rw [wrap_succ (by omega)]
  exact hnext
 ·have ho:=h.upRow (i:=i) (by omega) (by omega) m (by omega)
  rw [upRow] at ih
  generalize upRow out i m = o at ho ih ⊢
  refine Ev.succ ?_
  simp only [spec_l8Loops.l7]
  refine Ev.ite_pos (by omega) ?_
  have hl:=ho.1
  have hi1:=ho.2 _ (rdT_mem (i:=i) (by omega) (by omega))
  have hj1:=ho.2 _ (rdT_mem (i:=m) (by omega) (by omega))
  unfold up1 at ih
  by_cases c1 : (i : Int) = m
  ·rw [if_pos c1] at ih
   refine Ev.ite_pos c1 (Ev.succ ?_)
   simp only [spec_l8Loops.j8]
   refine Ev.ite_pos (by trivial) ?_
   rw [wrap_succ (by omega)]
   exact ih
  ·rw [if_neg c1] at ih
   refine Ev.ite_neg c1 (Ev.ite_pos (by omega) (Ev.ite_pos (by omega) (Ev.ite_pos (by omega) (Ev.ite_pos (by omega) (Ev.bind (l8Has_ev _ _ (by omega) (by omega)) (Ev.succ ?_))))))
   simp only [spec_l8Loops.j8]
   by_cases c2 : hasAll (rd_T58 o m).f1 (rd_T58 o i).f1 = true
   ·rw [if_pos c2] at ih
    refine Ev.ite_neg (by rw [c2];decide) (Ev.ite_pos (by omega) (Ev.ite_pos (by omega) ?_))
    by_cases c3 : (rd_T58 o i).f2 < 0
    ·rw [if_pos c3] at ih
     refine Ev.ite_pos c3 ?_
     rw [wrap_succ (by omega)]
     exact ih
    ·rw [if_neg c3] at ih
     refine Ev.ite_neg c3 (Ev.ite_pos (by omega) (Ev.ite_pos (by omega) (Ev.ite_pos (by omega) (Ev.ite_pos (by omega) ?_))))
     by_cases c4 : ((rd_T58 o m).f1.length : Int) < ((rd_T58 o (rd_T58 o i).f2).f1.length : Int)
     ·rw [if_pos c4] at ih
      refine Ev.ite_pos c4 ?_
      rw [wrap_succ (by omega)]
      exact ih
     ·rw [if_neg c4] at ih
      refine Ev.ite_neg c4 ?_
      rw [wrap_succ (by omega)]
      exact ih
   ·rw [if_neg c2] at ih
    refine Ev.ite_pos (by simpa using c2) ?_
    rw [wrap_succ (by omega)]
    exact ih
theorem sUp_ev {n : Nat} (hn : n ≤ 12) {out : List S58} (h : LOk n out) : Ev (fun k => spec_l8Loops.l6 k out (out.length : Int) 0) (upAll out n n,true):=by
 rw [h.1]
 refine Ev.count n (fun k out i => spec_l8Loops.l6 k out (n : Int) i) (fun m => upAll out n m) _ ?_ (fun m hm ih => ?_)
 ·refine Ev.succ ?_
  simp only [spec_l8Loops.l6]
  exact Ev.ite_neg (by omega) (Ev.now _)
 ·refine Ev.succ ?_
  simp only [spec_l8Loops.l6]
  have ho:=h.upAll m (by omega)
  rw [ho.1]
  exact Ev.ite_pos (by omega) (sUp_row hm hn ho ih)
theorem iUp_row {n : Nat} {i : Nat} (hi : i < n) (hn : n ≤ 12) {out : List S58} (h : LOk n out) {r : List S58}
  (hnext : Ev (fun k => impl_Graph_loops.l2 k (upRow out i n) ((i : Int) + 1)) r) : Ev (fun k => impl_Graph_loops.l3 k out i 0) r:=by
 refine Ev.count n (fun k out j => impl_Graph_loops.l3 k out i j) (fun m => upRow out i m) r ?_ (fun m hm ih => ?_)
 ·refine Ev.succ ?_
  simp only [impl_Graph_loops.l3]
  have ho:=(h.upRow (i:=i) (by omega) (by omega) n (by omega)).1
  refine Ev.ite_neg (by omega) ?_
  rw [wrap_succ (by omega)]
  exact hnext
 ·have ho:=h.upRow (i:=i) (by omega) (by omega) m (by omega)
  rw [upRow] at ih
  generalize upRow out i m = o at ho ih ⊢
  refine Ev.succ ?_
  simp only [impl_Graph_loops.l3]
  have hl:=ho.1
  refine Ev.ite_pos (by omega) (Ev.ite_pos (by omega) (Ev.ite_pos (by omega) ?_))
  have hi1:=ho.2 _ (rdT_mem (i:=i) (by omega) (by omega))
  have hj1:=ho.2 _ (rdT_mem (i:=m) (by omega) (by omega))
  unfold up1 at ih
  by_cases c1 : (i : Int) = m
  ·rw [if_pos c1] at ih
   refine Ev.ite_pos c1.symm ?_
   rw [wrap_succ (by omega)]
   exact ih
  ·rw [if_neg c1] at ih
   refine Ev.ite_neg (fun e => c1 e.symm) (Ev.bind (holdsAll_ev _ _ (by omega) (by omega)) ?_)
   by_cases c2 : hasAll (rd_T58 o m).f1 (rd_T58 o i).f1 = true
   ·rw [if_pos c2] at ih
    refine Ev.ite_pos c2 ?_
    by_cases c3 : (rd_T58 o i).f2 < 0
    ·rw [if_pos c3] at ih
     refine Ev.ite_pos c3 ?_
     rw [wrap_succ (by omega)]
     exact ih
    ·rw [if_neg c3] at ih
     refine Ev.ite_neg c3 (Ev.ite_pos (by omega) ?_)
     by_cases c4 : ((rd_T58 o m).f1.length : Int) < ((rd_T58 o (rd_T58 o i).f2).f1.length : Int)
     ·rw [if_pos c4] at ih
      refine Ev.ite_pos c4 ?_
      rw [wrap_succ (by omega)]
      exact ih
     ·rw [if_neg c4] at ih
      refine Ev.ite_neg c4 ?_
      rw [wrap_succ (by omega)]
      exact ih
   ·rw [if_neg c2] at ih
    refine Ev.ite_neg c2 ?_
    rw [wrap_succ (by omega)]
    exact ih
theorem iUp_ev {n : Nat} (hn : n ≤ 12) {out : List S58} (h : LOk n out) : Ev (fun k => impl_Graph_loops.l2 k out 0) (upAll out n n):=by
 refine Ev.count n (fun k out i => impl_Graph_loops.l2 k out i) (fun m => upAll out n m) _ ?_ (fun m hm ih => ?_)
 ·refine Ev.succ ?_
  simp only [impl_Graph_loops.l2]
  have ho:=(h.upAll n (by omega)).1
  exact Ev.ite_neg (by omega) (Ev.now _)
 ·refine Ev.succ ?_
  simp only [impl_Graph_loops.l2]
  have ho:=h.upAll m (by omega)
  have:=ho.1
  exact Ev.ite_pos (by omega) (Ev.ite_pos (by omega) (iUp_row hm hn ho ih))

theorem growAll_app (g : List (List Int)) (h : Int) : ∀ (p s : List Int) (k : Int),growAll g h s (p ++ [k]) = grow1 g h (growAll g h s p) k
 | [],s,k => rfl
 | x :: p,s,k => growAll_app g h p (grow1 g h s x) k
theorem grow_srt {g : List (List Int)} {h : Int} : ∀ (q s : List Int),(∀ k ∈ q,0 ≤ k ∧ k < g.length) → (srt g.length s).length + ((growAll g h s q).length - s.length) ≤ (srt g.length (growAll g h s q)).length
 | [],s,_ => by simp [growAll]
 | k :: q,s,hq => by
  rw [growAll]
  have ih:=grow_srt (g:=g) (h:=h) q (grow1 g h s k) (fun y hy => hq y (by simp [hy]))
  have h1:=grow1_sup g h s k
  have h2:=growAll_sup g h q (grow1 g h s k)
  have h3 : (srt g.length s).length + ((grow1 g h s k).length - s.length) ≤ (srt g.length (grow1 g h s k)).length:=by
   have hk:=hq k (by simp)
   unfold grow1
   split
   ·omega
   ·rename_i hks
    split
    ·rw [srt_add g.length s k hk.1 hk.2 hks];simp
    ·omega
  omega
/-- One row of the reference's growing. -/
theorem sGrow_row {g : List (List Int)} (hg : GG g) (R : List Int) (es : List (List Int)) (out : List S58) (h kk : Int) (s : List Int) (ag : Bool) (i : Int) (hkk : kk ∉ s) (h0 : 0 ≤ kk) (h1 : kk < g.length) {r : List S58 × Bool}
  (hnext : Ev (fun k => spec_l8Loops.l4 k R es out h (srt g.length (grow1 g h s kk)) (ag || decide (s.length < (grow1 g h s kk).length)) (g.length : Int) h R (R.length : Int) (wrap64 (i + 1)) g) r) :
  Ev (fun k => spec_l8Loops.l5 k R es out h (srt g.length s) ag kk (g.length : Int) h R (R.length : Int) i (rowG g kk) ((rowG g kk).length : Int) 0 g) r:=by
 have hhi:=hg.hi
 have hin:=hg.inn _ (rowG_mem h0 h1)
 have hlen:=(hg.ok (rowG_mem (g:=g) h0 h1)).le
 generalize hrow : rowG g kk = row at hin hlen ⊢
 have key:=Ev.rangeI row (fun k (b : List Int × Bool) j => spec_l8Loops.l5 k R es out h (srt g.length b.1) b.2 kk (g.length : Int) h R (R.length : Int) i row (row.length : Int) j g) (fun _ _ _ => r)
  (fun b p => (p.any (fun x => decide (x ≠ h) && decide (x ∈ s)) = true ∧ b.2 = true ∧ (∀ x,x ∈ b.1 ↔ x ∈ s ++ [kk])) ∨ (p.any (fun x => decide (x ≠ h) && decide (x ∈ s)) = false ∧ b = (s,ag))) (fun b hb => ?_) (fun b p x q e hb ih => ?_) (s,ag) (.inr ⟨rfl,rfl⟩)
 ·exact key
 ·refine Ev.succ ?_
  simp only [spec_l8Loops.l5]
  refine Ev.ite_neg (by omega) ?_
  unfold grow1 at hnext
  rw [if_neg hkk,hrow] at hnext
  rcases hb with ⟨ha,hb2,hb1⟩ | ⟨ha,rfl⟩
  ·rw [if_pos ha] at hnext
   have e1 : srt g.length b.1 = srt g.length (s ++ [kk]):=srt_congr fun x _ _ => by rw [hb1 x,decide_eq_true_iff]
   rw [e1,hb2]
   have e2 : (ag || decide (s.length < (s ++ [kk]).length)) = true:=by simp
   rw [e2] at hnext
   exact hnext
  ·rw [if_neg (by rw [ha];decide)] at hnext
   have e2 : (ag || decide (s.length < s.length)) = ag:=by simp
   rw [e2] at hnext
   exact hnext
 ·refine Ev.succ ?_
  simp only [spec_l8Loops.l5]
  have hl : p.length < row.length:=by rw [e];simp
  have hr : rd row (p.length : Int) = x:=by rw [e];exact rd_mid _ _ _
  refine Ev.ite_pos (by omega) (Ev.ite_pos (by omega) (Ev.ite_pos (by omega) ?_))
  rw [hr,wrap_succ (by omega)]
  have hx:=hin x (by rw [e];simp)
  have hsl:=srt_len g.length b.1
  by_cases c : x = h
  ·refine Ev.ite_pos c (ih b ?_)
   rw [List.any_append]
   simpa [c] using hb
  ·refine Ev.ite_neg c (Ev.bind (l1Has_ev (srt g.length b.1) x (by omega)) ?_)
   by_cases c2 : x ∈ b.1
   ·refine Ev.ite_pos (by rw [decide_eq_true_iff,srt_mem];exact ⟨hx,c2⟩) (Ev.bind (l1Put_srt g.length (by omega) b.1 kk h0 h1) ?_)
    refine ih (b.1 ++ [kk],true) (.inl ?_)
    rcases hb with ⟨ha,hb2,hb1⟩ | ⟨ha,rfl⟩
    ·refine ⟨by rw [List.any_append,ha];rfl,rfl,fun y => ?_⟩
     rw [List.mem_append,hb1 y,List.mem_append]
     exact ⟨fun h => h.elim id .inr,.inl⟩
    ·refine ⟨?_,rfl,fun y => Iff.rfl⟩
     rw [List.any_append]
     simp [c,c2]
   ·refine Ev.ite_neg (by rw [decide_eq_true_iff,srt_mem];exact fun h => c2 h.2) (ih b ?_)
    rcases hb with ⟨ha,hb2,hb1⟩ | ⟨ha,rfl⟩
    ·exact .inl ⟨by rw [List.any_append,ha];rfl,hb2,hb1⟩
    ·refine .inr ⟨?_,rfl⟩
     rw [List.any_append,ha]
     simp [c2]
/-- One pass over all nodes. -/
theorem sGrow_all {g : List (List Int)} (hg : GG g) (es : List (List Int)) (out : List S58) (h : Int) (s : List Int) {r : List S58 × Bool}
  (hnext : Ev (fun k => spec_l8Loops.l3 k (leftG g []) es out h (srt g.length (growAll g h s (leftG g []))) (decide (s.length < (growAll g h s (leftG g [])).length)) (g.length : Int) h g) r) :
  Ev (fun k => spec_l8Loops.l4 k (leftG g []) es out h (srt g.length s) false (g.length : Int) h (leftG g []) ((leftG g []).length : Int) 0 g) r:=by
 have hhi:=hg.hi
 have hok:=leftG_ok hg []
 have hle:=hok.le
 generalize hR : leftG g [] = R at hok hle hnext ⊢
 have key:=Ev.rangeI R (fun k (b : List Int × Bool) j => spec_l8Loops.l4 k R es out h (srt g.length b.1) b.2 (g.length : Int) h R (R.length : Int) j g) (fun _ _ _ => r)
  (fun b p => b = (growAll g h s p,decide (s.length < (growAll g h s p).length))) (fun b hb => ?_) (fun b p x q e hb ih => ?_) (s,false) (by simp [growAll])
 ·exact key
 ·refine Ev.succ ?_
  simp only [spec_l8Loops.l4]
  subst hb
  exact Ev.ite_neg (by omega) hnext
 ·refine Ev.succ ?_
  simp only [spec_l8Loops.l4]
  have hl : p.length < R.length:=by rw [e];simp
  have hr : rd R (p.length : Int) = x:=by rw [e];exact rd_mid _ _ _
  have hx:=hok.2 x (by rw [e];simp)
  refine Ev.ite_pos (by omega) (Ev.ite_pos (by omega) (Ev.ite_pos (by omega) ?_))
  rw [hr]
  have hsl:=srt_len g.length b.1
  refine Ev.bind (l1Has_ev (srt g.length b.1) x (by omega)) ?_
  have hgs:=growAll_sup g h p s
  subst hb
  have hap:=growAll_app g h p s x
  generalize growAll g h s p = s1 at *
  by_cases c : x ∈ s1
  ·refine Ev.ite_pos (by rw [decide_eq_true_iff,srt_mem];exact ⟨hx,c⟩) ?_
   rw [wrap_succ (by omega)]
   refine ih _ ?_
   rw [hap]
   unfold grow1
   rw [if_pos c]
  ·refine Ev.ite_neg (by rw [decide_eq_true_iff,srt_mem];exact fun h => c h.2) (Ev.ite_pos hx.1 (Ev.ite_pos hx.2 ?_))
   refine sGrow_row hg R es out h x s1 _ _ c hx.1 hx.2 ?_
   rw [wrap_succ (by omega)]
   refine ih (grow1 g h s1 x,(decide (s.length < s1.length) || decide (s1.length < (grow1 g h s1 x).length))) ?_
   rw [hap]
   have:=grow1_sup g h s1 x
   refine Prod.ext rfl ?_
   dsimp only
   rw [Bool.eq_iff_iff,Bool.or_eq_true,decide_eq_true_iff,decide_eq_true_iff,decide_eq_true_iff]
   omega
/-- A body grows to its end. -/
theorem sGrow_ev {g : List (List Int)} (hg : GG g) (es : List (List Int)) (out : List S58) (ho : out.length ≤ 1000) (h : Int) {r : List S58 × Bool}
  (hnext : Ev (fun k => spec_l8Loops.l0 k (leftG g []) es (out ++ [⟨h,bodyL g h,-1⟩]) (g.length : Int) (wrap64 (h + 1)) g) r) :
  ∀ (m : Nat) (s : List Int),Grows g h s → g.length - (srt g.length s).length ≤ m → Ev (fun k => spec_l8Loops.l3 k (leftG g []) es out h (srt g.length s) true (g.length : Int) h g) r:=by
 intro m
 induction m with
 | zero =>
  intro s H hm
  have hsl:=srt_len g.length s
  refine Ev.succ ?_
  simp only [spec_l8Loops.l3]
  refine Ev.ite_pos (by trivial) (sGrow_all hg es out h s ?_)
  have hgs:=growAll_sup g h (leftG g []) s
  have hgr:=grow_srt (g:=g) (h:=h) (leftG g []) s (fun k hk => (leftG_ok hg []).2 k hk)
  have hsl2:=srt_len g.length (growAll g h s (leftG g []))
  have heq : (growAll g h s (leftG g [])).length = s.length:=by omega
  have hsame:=growAll_same g h (leftG g []) s heq
  rw [hsame.1]
  refine Ev.succ ?_
  simp only [spec_l8Loops.l3]
  refine Ev.ite_neg (by simp) (Ev.ite_pos (by omega) ?_)
  rw [H.done hg hsame.2]
  exact hnext
 | succ m ihm =>
  intro s H hm
  have hsl:=srt_len g.length s
  refine Ev.succ ?_
  simp only [spec_l8Loops.l3]
  refine Ev.ite_pos (by trivial) (sGrow_all hg es out h s ?_)
  have hgs:=growAll_sup g h (leftG g []) s
  by_cases c : s.length < (growAll g h s (leftG g [])).length
  ·rw [decide_eq_true c]
   have hgr:=grow_srt (g:=g) (h:=h) (leftG g []) s (fun k hk => (leftG_ok hg []).2 k hk)
   exact ihm _ (Grows.growAll hg _ _ H (fun k hk => hk)) (by omega)
  ·have heq : (growAll g h s (leftG g [])).length = s.length:=by omega
   have hsame:=growAll_same g h (leftG g []) s heq
   rw [hsame.1]
   refine Ev.succ ?_
   simp only [spec_l8Loops.l3]
   refine Ev.ite_neg (by simp) (Ev.ite_pos (by omega) ?_)
   rw [H.done hg hsame.2]
   exact hnext
/-- One head of the reference's. -/
theorem sHead_ev {g : List (List Int)} (hg : GG g) (out : List S58) (ho : out.length ≤ 1000) (h : Nat) (h1 : h < g.length) {r : List S58 × Bool}
  (hnext : Ev (fun k => spec_l8Loops.l0 k (leftG g []) (esG g) (out ++ (if stOf (esG g) h = [] then [] else [⟨h,bodyL g h,-1⟩])) (g.length : Int) ((h : Int) + 1) g) r) :
  Ev (fun k => spec_l8Loops.l1 k (leftG g []) (esG g) out h [(h : Int)] (g.length : Int) h (esG g) ((esG g).length : Int) 0 g) r:=by
 have hhi:=hg.hi
 have hel:=esG_len hg
 have hG:=Grows.start hg (h:=(h : Int)) (by omega) (by omega)
 have hok:=esG_ok hg
 generalize hE : esG g = es at hel hG hok hnext ⊢
 rw [srt_one g.length (h : Int) (by omega) (by omega)]
 refine Ev.rangeI es (fun k (b : List Int) j => spec_l8Loops.l1 k (leftG g []) es out h b (g.length : Int) h es (es.length : Int) j g) (fun _ _ _ => r)
  (fun b p => b = srt g.length ((h : Int) :: stOf p h)) (fun b hb => ?_) (fun b p e q he hb ih => ?_) _ rfl
 ·refine Ev.succ ?_
  simp only [spec_l8Loops.l1]
  subst hb
  refine Ev.ite_neg (by omega) ?_
  refine Ev.rangeI es (fun k (b : Bool) j => spec_l8Loops.l2 k (leftG g []) es out h (srt g.length ((h : Int) :: stOf es h)) b (g.length : Int) h es (es.length : Int) j g) (fun _ _ _ => r)
   (fun b p => b = decide (stOf p h ≠ [])) (fun b hb => ?_) (fun b p e q he hb ih => ?_) _ (by simp [stOf_nil])
  ·refine Ev.succ ?_
   simp only [spec_l8Loops.l2]
   subst hb
   refine Ev.ite_neg (by omega) ?_
   by_cases c : stOf es h = []
   ·rw [if_pos c,List.append_nil] at hnext
    refine Ev.ite_neg (by simp [c]) ?_
    rw [wrap_succ (by omega)]
    exact hnext
   ·rw [if_neg c] at hnext
    refine Ev.ite_pos (by simp [c]) (sGrow_ev hg es out ho h (by rw [wrap_succ (by omega)];exact hnext) _ _ (by rw [← hE] at hG ⊢;exact hG) (Nat.le_refl _))
  ·refine Ev.succ ?_
   simp only [spec_l8Loops.l2]
   have hl : p.length < es.length:=by rw [he];simp
   have hr : rd_L1 es (p.length : Int) = e:=by rw [he];exact getD_at p q e []
   have hlen:=(hok e (by rw [he];simp)).len
   refine Ev.ite_pos (by omega) (Ev.ite_pos (by omega) (Ev.ite_pos (by omega) ?_))
   rw [hr,wrap_succ (by omega)]
   by_cases c : b = true
   ·refine Ev.ite_pos c (ih true ?_)
    rw [c] at hb
    have hb' : stOf p h ≠ []:=of_decide_eq_true hb.symm
    rw [stOf_snoc]
    simp [hb']
   ·have cb : b = false:=by simpa using c
    have hb' : stOf p h = []:=by rw [cb] at hb;simpa using hb.symm
    refine Ev.ite_neg c (Ev.ite_pos (by omega) (ih _ ?_))
    rw [stOf_snoc,hb']
    by_cases c2 : rd e 1 = (h : Int) <;> simp [c2]
 ·refine Ev.succ ?_
  simp only [spec_l8Loops.l1]
  have hl : p.length < es.length:=by rw [he];simp
  have hr : rd_L1 es (p.length : Int) = e:=by rw [he];exact getD_at p q e []
  have ho':=hok e (by rw [he];simp)
  have hlen:=ho'.len
  refine Ev.ite_pos (by omega) (Ev.ite_pos (by omega) (Ev.ite_pos (by omega) ?_))
  rw [hr,wrap_succ (by omega)]
  refine Ev.ite_pos (by omega) ?_
  by_cases c : rd e 1 = (h : Int)
  ·refine Ev.ite_pos c (Ev.ite_pos (by omega) ?_)
   subst hb
   refine Ev.bind (l1Put_srt g.length (by omega) _ (rd e 0) ho'.s0 ho'.s1) (ih _ ?_)
   rw [stOf_snoc,if_pos c]
   rfl
  ·refine Ev.ite_neg c (ih _ ?_)
   rw [stOf_snoc,if_neg c,List.append_nil]
   exact hb
/-- What l8Loops answers. -/
def loopIn (g : List (List Int)) : List S58 × Bool:=if goodGraphB g = true then (if cycB g = true then ([],false) else (loopsG g,true)) else ([],false)
theorem sLoops_ev (g : List (List Int)) (h0 : g.length ≤ 1048576) (hx : ∀ x ∈ g,x.length ≤ 1048576) : Ev (fun k => spec_l8Loops.f k g) (loopIn g):=by
 unfold spec_l8Loops.f loopIn
 refine Ev.bind (sGoodGraph_ev g h0 hx) ?_
 by_cases h : goodGraphB g = true
 ·rw [if_pos h]
  have hg:=goodGraph_GG h hx
  have hhi:=hg.hi
  refine Ev.ite_pos h (Ev.bind (sDoms_ev hg) (Ev.bind (sRed_ev hg) ?_))
  by_cases hc : cycB g = true
  ·rw [if_pos hc]
   exact Ev.ite_pos hc (Ev.now _)
  ·rw [if_neg hc]
   refine Ev.ite_neg hc (Ev.bind (sWithout_ev hg (-1) [] (fun x h0 => ⟨fun e => by omega,fun e => by simp at e⟩)) (Ev.bind (sBack_ev hg) ?_))
   refine Ev.count g.length (fun k out i => spec_l8Loops.l0 k (leftG g []) (backAll g g.length) out (g.length : Int) i g) (fun m => loops0 g m) _ ?_ (fun m hm ih => ?_)
   ·refine Ev.succ ?_
    simp only [spec_l8Loops.l0]
    have hl:=(loops0_ok hg g.length (Nat.le_refl _)).1
    exact Ev.ite_neg (by omega) (sUp_ev (by omega) (loops0_LOk hg))
   ·refine Ev.succ ?_
    simp only [spec_l8Loops.l0]
    have hl:=(loops0_ok hg m (by omega)).1
    exact Ev.ite_pos (by omega) (sHead_ev hg _ (by omega) m hm ih)
 ·rw [if_neg h]
  exact Ev.ite_neg h (Ev.now _)

theorem iReachA_ev {g : List (List Int)} (hg : GW g) (av : List Int) (hl : av.length ≤ 1000) (a : Int) (ha : a ∉ av) (h0 : 0 ≤ a) (h1 : a < g.length) : Ev (fun k => impl_reach.f k g a av) (boolsG g.length (walkG g av (g.length + 1) [a] 0)):=by
 have hhi:=hg.hi
 unfold impl_reach.f
 refine Ev.ite_pos (by omega) (Ev.ite_pos (by omega) (Ev.bind (Ev.now _) (Ev.bind (contains_ev av a (by omega)) ?_)))
 rw [Int.toNat_natCast,boolsG_nil]
 refine Ev.ite_neg (by simpa using ha) (Ev.ite_pos (by omega) (Ev.ite_pos (by unfold boolsG;rw [tab_length];omega) ?_))
 rw [boolsG_snoc _ _ (by omega)]
 exact iReach_l0 hg av hl _ [a] 0 ⟨by simp,fun x hx => by rw [List.mem_singleton] at hx;omega⟩ (by simp) (by omega)
theorem bodyIx_ev (n : Nat) (h : Int) (s : List Int) (st : List Int) (hst : ∀ x ∈ st,0 ≤ x ∧ x < n) (hl : st.length ≤ 1000) : Ev (fun k => impl_Graph_body_1_ix.l0 k h (boolsG n s) st 0) (match st.findIdx? (fun y => decide (y ≠ h) && decide (y ∈ s)) with | some j => (j : Int) | none => -1):=by
 refine Ev.index st (fun k i => impl_Graph_body_1_ix.l0 k h (boolsG n s) st i) (fun y => decide (y ≠ h) && decide (y ∈ s)) ?_ (fun p y q e hp => ?_) (fun p y q r e hp ih => ?_)
 ·refine Ev.succ ?_
  simp only [impl_Graph_body_1_ix.l0]
  exact Ev.ite_neg (by omega) (Ev.some rfl)
 all_goals
  have hlen : p.length < st.length:=by rw [e];simp
  have hr : rd st (p.length : Int) = y:=by rw [e];exact rd_mid _ _ _
  have hy:=hst y (by rw [e];simp)
  have hfe : Ev (fun k => impl_Graph_body_1.f k h (boolsG n s) y) (decide (y ≠ h) && decide (y ∈ s)):=by
   unfold impl_Graph_body_1.f
   by_cases c : y = h
   ·exact Ev.ite_pos c (Ev.some (by simp [c]))
   ·refine Ev.ite_neg c (Ev.ite_pos hy.1 (Ev.ite_pos (by unfold boolsG;rw [tab_length];exact hy.2) (Ev.some ?_)))
    rw [boolsG_rd s hy.1 hy.2]
    simp [c]
  refine Ev.succ ?_
  simp only [impl_Graph_body_1_ix.l0]
  refine Ev.ite_pos (by omega) (Ev.ite_pos (by omega) ?_)
  rw [hr]
  refine Ev.bind hfe ?_
 ·exact Ev.ite_pos hp (Ev.some rfl)
 ·refine Ev.ite_neg (by rw [hp];decide) ?_
  rw [wrap_succ (by omega)]
  exact ih
/-- The marks of a body below m. -/
def bodyM (g : List (List Int)) (h : Int) (m : Nat) (x : Int) : Bool:=decide (x = h) || (decide (x < m) && inB g h x)
theorem body_ev {g : List (List Int)} (hg : GG g) (h : Nat) (h1 : h < g.length) : Ev (fun k => impl_Graph_body.f k g h (stOf (esG g) h)) (bodyL g h):=by
 have hhi:=hg.hi
 have hlo:=hg.lo
 have hst : ∀ x ∈ stOf (esG g) h,0 ≤ x ∧ x < g.length:=fun x hx => by
  obtain ⟨e,he,_,rfl⟩:=stOf_mem.1 hx
  exact ⟨(esG_ok hg e he).s0,(esG_ok hg e he).s1⟩
 have hsl : (stOf (esG g) h).length ≤ 144:=Nat.le_trans (stOf_len _ _) (esG_len hg)
 unfold impl_Graph_body.f
 refine Ev.ite_pos (by omega) (Ev.bind (iReach_ev hg [] (by simp)) (Ev.ite_pos (by omega) (Ev.ite_pos (by omega) ?_)))
 have e0 : (List.replicate g.length false).set (h : Int).toNat true = tab g.length (bodyM g h 0):=by
  rw [tab_rep,tab_set _ (by omega)]
  refine tab_congr fun x hx0 _ => ?_
  unfold bodyM
  by_cases c : x = (h : Int)
  ·rw [if_pos c];simp [c]
  ·rw [if_neg c,decide_eq_false c,decide_eq_false (show ¬ x < ((0 : Nat) : Int) by omega)];rfl
 rw [e0]
 refine Ev.count g.length (fun k inn i => impl_Graph_body.l0 k g h (stOf (esG g) h) (boolsG g.length (leftG g [])) inn i) (fun m => tab g.length (bodyM g h m)) _ ?_ (fun m hm ih => ?_)
 ·refine Ev.succ ?_
  simp only [impl_Graph_body.l0]
  refine Ev.ite_neg (by omega) ?_
  refine Ev.cast (listOf_ev g.length (by omega) (bodyM g h g.length)) (List.filter_congr fun x hx => ?_)
  have hx':=upto_mem.1 hx
  unfold bodyM
  rw [decide_eq_true hx'.2]
  unfold inB
  by_cases c : x = (h : Int) <;> simp [c]
 ·refine Ev.succ ?_
  simp only [impl_Graph_body.l0]
  have hbl : (boolsG g.length (leftG g [])).length = g.length:=by unfold boolsG;exact tab_length _ _
  refine Ev.ite_pos (by omega) (Ev.ite_pos (by omega) (Ev.ite_pos (by omega) ?_))
  rw [boolsG_rd _ (by omega) (by omega),wrap_succ (by omega)]
  have hsame : (bodyM g h m (m : Int) = bodyM g h (m + 1) (m : Int)) → tab g.length (bodyM g h m) = tab g.length (bodyM g h (m + 1)):=fun e => tab_congr fun x hx0 hx1 => by
   by_cases c : x = (m : Int)
   ·rw [c];exact e
   ·unfold bodyM
    have : decide (x < ((m + 1 : Nat) : Int)) = decide (x < (m : Int)):=by rw [decide_eq_decide];omega
    rw [this]
  by_cases c1 : (m : Int) ∈ leftG g []
  ·refine Ev.ite_pos (by simpa using c1) ?_
   by_cases c2 : (m : Int) = h
   ·refine Ev.ite_pos c2 ?_
    rw [hsame (by unfold bodyM;simp [c2])]
    exact ih
   ·refine Ev.ite_neg c2 (Ev.bind (iReachA_ev hg.toGW [(h : Int)] (by simp) m (by simpa using c2) (by omega) (by omega)) (Ev.bind (bodyIx_ev g.length h _ _ hst (by omega)) ?_))
    rw [findIdx_any,tab_set _ (by omega)]
    have e1 : tab g.length (fun b => if b = (m : Int) then (stOf (esG g) h).any (fun y => decide (y ≠ (h : Int)) && decide (y ∈ walkG g [(h : Int)] (g.length + 1) [(m : Int)] 0)) else bodyM g h m b) = tab g.length (bodyM g h (m + 1)):=tab_congr fun x hx0 hx1 => by
     by_cases c : x = (m : Int)
     ·rw [if_pos c,c]
      unfold bodyM inB
      rw [decide_eq_false c2,decide_eq_true c1,decide_eq_true (show (m : Int) < ((m + 1 : Nat) : Int) by omega)]
      simp
     ·rw [if_neg c]
      unfold bodyM
      have : decide (x < ((m + 1 : Nat) : Int)) = decide (x < (m : Int)):=by rw [decide_eq_decide];omega
      rw [this]
    rw [e1]
    exact ih
  ·refine Ev.ite_neg (by simpa using c1) ?_
   rw [hsame (by
    unfold bodyM inB
    rw [decide_eq_false c1,decide_eq_false (show ¬ (m : Int) < (m : Int) by omega)]
    by_cases c2 : (m : Int) = h <;> simp [c2])]
   exact ih
theorem iLoops_ev {g : List (List Int)} (hg : GG g) : Ev (fun k => impl_Graph_loops.f k g) (loopsG g):=by
 have hhi:=hg.hi
 have hel:=esG_len hg
 have hok:=esG_ok hg
 unfold impl_Graph_loops.f
 refine Ev.ite_pos (by omega) (Ev.bind (iBack_ev hg) ?_)
 rw [tab_rep]
 refine Ev.rangeI (esG g) (fun k (st : List (List Int)) i => impl_Graph_loops.l0 k g (esG g) st i) (fun _ _ _ => loopsG g) (fun st p => st = tab g.length (stOf p)) (fun st hs => ?_) (fun st p e q he hs ih => ?_) _ (tab_congr fun x _ _ => (stOf_nil x).symm)
 ·refine Ev.succ ?_
  simp only [impl_Graph_loops.l0]
  refine Ev.ite_neg (by omega) ?_
  subst hs
  refine Ev.count g.length (fun k out i => impl_Graph_loops.l1 k g (tab g.length (stOf (esG g))) out i) (fun m => loops0 g m) _ ?_ (fun m hm ih => ?_)
  ·refine Ev.succ ?_
   simp only [impl_Graph_loops.l1]
   rw [tab_length]
   have hl:=(loops0_ok hg g.length (Nat.le_refl _)).1
   exact Ev.ite_neg (by omega) (iUp_ev (by omega) (loops0_LOk hg))
  ·refine Ev.succ ?_
   simp only [impl_Graph_loops.l1]
   rw [tab_length,tab_getD _ (show (0 : Int) ≤ (m : Int) by omega) (by omega)]
   have hl:=(loops0_ok hg m (by omega)).1
   refine Ev.ite_pos (by omega) (Ev.ite_pos (by omega) ?_)
   rw [wrap_succ (by omega)]
   rw [loops0] at ih
   by_cases c : stOf (esG g) m = []
   ·rw [if_pos c,List.append_nil] at ih
    exact Ev.ite_neg (by rw [c];simp) ih
   ·rw [if_neg c] at ih
    exact Ev.ite_pos (List.length_pos_iff.2 c) (Ev.bind (body_ev hg m hm) (Ev.ite_pos (by omega) ih))
 ·refine Ev.succ ?_
  simp only [impl_Graph_loops.l0]
  have hl : p.length < (esG g).length:=by rw [he];simp
  have hr : (esG g).getD (p.length : Int).toNat [] = e:=by rw [he,Int.toNat_natCast];exact getD_at p q e []
  have ho':=hok e (by rw [he];simp)
  have hlen:=ho'.len
  have hpl : p.length ≤ 144:=by omega
  subst hs
  rw [hr,tab_length,tab_getD _ ho'.t0 ho'.t1,wrap_succ (by omega)]
  have hsl:=stOf_len p (rd e 1)
  refine Ev.ite_pos (by omega) (Ev.ite_pos (by omega) (Ev.ite_pos (by omega) (Ev.ite_pos ho'.t0 (Ev.ite_pos ho'.t1 (Ev.ite_pos (by omega) (ih _ ?_))))))
  rw [tab_set _ ho'.t0]
  refine tab_congr fun x _ _ => ?_
  rw [stOf_snoc]
  by_cases c : x = rd e 1
  ·rw [if_pos c,c,if_pos rfl]
  ·rw [if_neg c,if_neg (fun e => c e.symm),List.append_nil]
theorem iRedGraph_ev (g : List (List Int)) (h0 : g.length ≤ 1048576) (hx : ∀ x ∈ g,x.length ≤ 1048576) : Ev (fun k => impl_reducibleGraph.f k g) (goodGraphB g && !cycB g):=by
 unfold impl_reducibleGraph.f
 refine Ev.bind (iGoodGraph_ev g h0 hx) ?_
 by_cases h : goodGraphB g = true
 ·exact Ev.ite_pos h (Ev.cast (iRed_ev (goodGraph_GG h hx)) (by rw [h];rfl))
 ·exact Ev.ite_neg h (Ev.some (by rw [show goodGraphB g = false by simpa using h];rfl))

/-- Whether a graph is good and reducible. -/
def redB (g : List (List Int)) : Bool:=goodGraphB g && !cycB g
theorem loopIn_eq (g : List (List Int)) : loopIn g = if redB g = true then (loopsG g,true) else ([],false):=by
 unfold loopIn redB
 cases goodGraphB g <;> cases cycB g <;> rfl
theorem redB_GG {g : List (List Int)} (h : redB g = true) (hx : ∀ x ∈ g,x.length ≤ 1048576) : GG g:=by
 unfold redB at h
 rw [Bool.and_eq_true] at h
 exact goodGraph_GG h.1 hx
theorem redB_LOk {g : List (List Int)} (h : redB g = true) (hx : ∀ x ∈ g,x.length ≤ 1048576) : (loopsG g).length ≤ 12 ∧ LOk (loopsG g).length (loopsG g):=by
 have hg:=redB_GG h hx
 have h1:=loopsG_LOk hg
 have h2:=(loops0_ok hg g.length (Nat.le_refl _)).1
 have h3:=hg.hi
 have h4:=h1.1
 rw [← h4] at h1
 exact ⟨by omega,h1⟩
theorem rdT_at (p q : List S58) (x : S58) : rd_T58 (p ++ x :: q) (p.length : Int) = x:=by
 unfold rd_T58
 rw [Int.toNat_natCast]
 exact getD_at p q x _

theorem within_ev {g : List (List Int)} (h : GG g) (a : Int) : Ev (fun _ => impl_within.f a 0 (wrap64 ((g.length : Int) - 1))) (decide (0 ≤ a ∧ a < g.length)):=by
 have hlo:=h.lo
 have hhi:=h.hi
 rw [wrap64_id (by omega) (by omega)]
 unfold impl_within.f
 by_cases c : a ≥ 0
 ·refine Ev.ite_pos c (Ev.some ?_)
  rw [decide_eq_decide];omega
 ·refine Ev.ite_neg c (Ev.some ?_)
  symm;rw [decide_eq_false_iff_not];omega
theorem node_ev (g : List (List Int)) (a : Int) : Ev (fun _ => spec_l8Node.f g a) (decide (0 ≤ a ∧ a < g.length)):=by
 unfold spec_l8Node.f
 by_cases c : a ≥ 0
 ·refine Ev.ite_pos c (Ev.some ?_)
  rw [decide_eq_decide];omega
 ·refine Ev.ite_neg c (Ev.some ?_)
  symm;rw [decide_eq_false_iff_not];omega

/-- What a loop's head and body are, whatever lies around it. -/
def KIn (Pd : Int → List Int → Prop) (out : List S58) : Prop:=∀ x ∈ out,Pd x.f0 x.f1
theorem KIn.set {Pd : Int → List Int → Prop} {m : Nat} {out : List S58} (hl : out.length = m) (h : KIn Pd out) {i j : Int} (h0 : 0 ≤ i) (h1 : i < m) : KIn Pd (out.set i.toNat ⟨(rd_T58 out i).f0,(rd_T58 out i).f1,j⟩):=by
 intro x hx
 rcases List.mem_or_eq_of_mem_set hx with hx | rfl
 ·exact h x hx
 ·exact h (rd_T58 out i) (rdT_mem h0 (by rw [hl];exact h1))
theorem KIn.up1 {Pd : Int → List Int → Prop} {m : Nat} {out : List S58} (hl : out.length = m) (h : KIn Pd out) {i j : Int} (h0 : 0 ≤ i) (h1 : i < m) : KIn Pd (up1 out i j):=by
 unfold Pure.up1
 split
 ·exact h
 ·split
  ·split
   ·exact h.set hl h0 h1
   ·split
    ·exact h.set hl h0 h1
    ·exact h
  ·exact h
theorem KIn.upRow {Pd : Int → List Int → Prop} {m : Nat} {out : List S58} (hk : LOk m out) (h : KIn Pd out) {i : Int} (h0 : 0 ≤ i) (h1 : i < m) : ∀ q,q ≤ m → KIn Pd (upRow out i q)
 | 0,_ => h
 | q + 1,hq => KIn.up1 (hk.upRow h0 h1 q (by omega)).1 (KIn.upRow hk h h0 h1 q (by omega)) h0 h1
theorem KIn.upAll {Pd : Int → List Int → Prop} {m : Nat} {out : List S58} (hk : LOk m out) (h : KIn Pd out) : ∀ q,q ≤ m → KIn Pd (upAll out m q)
 | 0,_ => h
 | q + 1,hq => KIn.upRow (hk.upAll q (by omega)) (KIn.upAll hk h q (by omega)) (by omega) (by omega) m (Nat.le_refl _)
def headP (g : List (List Int)) (h : Int) (bd : List Int) : Prop:=(0 ≤ h ∧ h < g.length) ∧ stOf (esG g) h ≠ []
theorem loops0_KIn (g : List (List Int)) : ∀ m : Nat,m ≤ g.length → KIn (headP g) (loops0 g m)
 | 0,_ => by intro x hx;simp [loops0] at hx
 | m + 1,hm => by
  intro x hx
  rw [loops0] at hx
  rcases List.mem_append.1 hx with hx | hx
  ·exact loops0_KIn g m (by omega) x hx
  ·split at hx
   ·simp at hx
   ·rename_i hne
    rw [List.mem_singleton] at hx
    subst hx
    exact ⟨⟨by show (0 : Int) ≤ (m : Int);omega,by show (m : Int) < _;omega⟩,hne⟩
theorem loopsG_KIn {g : List (List Int)} (hg : GG g) : KIn (headP g) (loopsG g):=(loops0_KIn g g.length (Nat.le_refl _)).upAll (loops0_LOk hg) _ (Nat.le_refl _)
theorem backRow_row (g : List (List Int)) (i : Int) : ∀ q : List Int,∀ e ∈ backRow g i q,rd e 0 = i ∧ rd e 1 ∈ q
 | [],e,he => by simp [backRow] at he
 | x :: q,e,he => by
  rw [backRow] at he
  rcases List.mem_append.1 he with he | he
  ·split at he
   ·rw [List.mem_singleton] at he
    subst he
    exact ⟨rfl,by simp [rd]⟩
   ·simp at he
  ·have:=backRow_row g i q e he
   exact ⟨this.1,by simp [this.2]⟩
theorem backAll_row (g : List (List Int)) : ∀ m : Nat,∀ e ∈ backAll g m,rd e 1 ∈ rowG g (rd e 0)
 | 0,e,he => by simp [backAll] at he
 | m + 1,e,he => by
  rw [backAll] at he
  rcases List.mem_append.1 he with he | he
  ·exact backAll_row g m e he
  ·have:=backRow_row g m _ e he
   rw [this.1];exact this.2
/-- The nodes that are reached, rising, and those of them that lead to t. -/
def upL (g : List (List Int)) : List Int:=(upto g.length).filter (fun k => decide (k ∈ leftG g []))
def predL (g : List (List Int)) (t : Int) : List Int:=(upL g).filter (fun k => decide (t ∈ rowG g k))
theorem upL_mem {g : List (List Int)} (hg : GG g) {k : Int} : k ∈ upL g ↔ k ∈ leftG g []:=by
 unfold upL
 rw [List.mem_filter,upto_mem,decide_eq_true_iff]
 exact ⟨fun h => h.2,fun h => ⟨(leftG_ok hg []).2 k h,h⟩⟩
theorem upL_len (g : List (List Int)) : (upL g).length ≤ g.length:=by
 have:=List.length_filter_le (fun k => decide (k ∈ leftG g [])) (upto g.length)
 rw [upto_length] at this
 exact this
theorem upto_rise (n : Nat) : (upto n).Pairwise (· < ·):=by
 induction n with
 | zero => exact List.Pairwise.nil
 | succ n ih =>
  rw [upto_succ,List.pairwise_append]
  refine ⟨ih,by simp,fun a ha b hb => ?_⟩
  rw [List.mem_singleton] at hb
  have:=(upto_mem.1 ha).2
  omega
theorem upL_rise (g : List (List Int)) : (upL g).Pairwise (· < ·):=(upto_rise _).filter _
theorem predRow_ev {g : List (List Int)} (hg : GG g) (L : List Int) (kk : Int) (i : Int) (B : Int → List Int) (hB : ∀ t,(B t).length ≤ 1000 ∧ ∀ y ∈ B t,y < kk) (row : List Int) (hrow : row.length ≤ 1000) (hin : ∀ x ∈ row,0 ≤ x ∧ x < g.length) (hnd : row.Nodup) {r : List (List Int)}
  (hnext : Ev (fun k => impl_preds.l0 k g (tab g.length (fun t => B t ++ (if t ∈ row then [kk] else []))) L (L.length : Int) (wrap64 (i + 1))) r) :
  Ev (fun k => impl_preds.l1 k g (tab g.length B) kk L (L.length : Int) i row (row.length : Int) 0) r:=by
 refine Ev.rangeI row (fun k (b : List (List Int)) j => impl_preds.l1 k g b kk L (L.length : Int) i row (row.length : Int) j) (fun _ _ _ => r) (fun b p => b = tab g.length (fun t => B t ++ (if t ∈ p then [kk] else []))) (fun b hb => ?_) (fun b p x q e hb ih => ?_) _ (tab_congr fun t _ _ => by simp)
 ·refine Ev.succ ?_
  simp only [impl_preds.l1]
  subst hb
  exact Ev.ite_neg (by omega) hnext
 ·refine Ev.succ ?_
  simp only [impl_preds.l1]
  have hl : p.length < row.length:=by rw [e];simp
  have hr : rd row (p.length : Int) = x:=by rw [e];exact rd_mid _ _ _
  have hx:=hin x (by rw [e];simp)
  have hxp : x ∉ p:=by
   rw [e,List.nodup_append] at hnd
   exact fun h => hnd.2.2 x h x (by simp) rfl
  have hbx:=hB x
  have hrd : rd_L1 b x = B x:=by
   rw [hb]
   show (tab _ _).getD x.toNat [] = _
   rw [tab_getD _ hx.1 hx.2,if_neg hxp,List.append_nil]
  have hbl : b.length = g.length:=by rw [hb,tab_length]
  have hset : b.set x.toNat (B x ++ [kk]) = tab g.length (fun t => B t ++ (if t ∈ p ++ [x] then [kk] else [])):=by
   rw [hb,tab_set _ hx.1]
   refine tab_congr fun t _ _ => ?_
   by_cases c : t = x
   ·rw [if_pos c,c,if_pos (by simp)]
   ·rw [if_neg c]
    simp [c]
  refine Ev.ite_pos (by omega) (Ev.ite_pos (by omega) (Ev.ite_pos (by omega) ?_))
  rw [hr,hrd,wrap_succ (by omega)]
  refine Ev.ite_pos hx.1 (Ev.ite_pos (by rw [hbl];exact hx.2) ?_)
  by_cases c : ((B x).length : Int) = 0
  ·refine Ev.ite_pos c (Ev.ite_pos (by omega) ?_)
   rw [hset]
   exact ih _ rfl
  ·have hw : wrap64 (((B x).length : Int) - 1) = ((B x).length : Int) - 1:=wrap64_id (by omega) (by omega)
   refine Ev.ite_neg c ?_
   rw [hw]
   refine Ev.ite_pos (by omega) (Ev.ite_pos (by omega) (Ev.ite_neg ?_ (Ev.ite_pos (by omega) ?_)))
   ·have hm:=rd_mem (s:=B x) (i:=(B x).length - 1) (by omega)
    have he : (((B x).length - 1 : Nat) : Int) = ((B x).length : Int) - 1:=by omega
    rw [he] at hm
    have:=hbx.2 _ hm
    omega
   ·rw [hset]
    exact ih _ rfl
theorem preds_ev {g : List (List Int)} (hg : GG g) : Ev (fun k => impl_preds.f k g) (tab g.length (predL g)):=by
 have hhi:=hg.hi
 have hll:=upL_len g
 unfold impl_preds.f
 refine Ev.ite_pos (by omega) (Ev.ite_pos (by omega) (Ev.bind (iReach_ev hg [] (by simp)) ?_))
 have hlo : Ev (fun k => impl_listOf.f k (boolsG g.length (leftG g []))) (upL g):=listOf_ev g.length (by omega) (fun x => decide (x ∈ leftG g []))
 refine Ev.bind hlo ?_
 rw [Int.toNat_natCast,tab_rep]
 unfold predL
 have hri:=upL_rise g
 have hme : ∀ k ∈ upL g,0 ≤ k ∧ k < g.length:=fun k hk => (leftG_ok hg []).2 k ((upL_mem hg).1 hk)
 generalize upL g = L at hll hri hme ⊢
 refine Ev.rangeI L (fun k (b : List (List Int)) j => impl_preds.l0 k g b L (L.length : Int) j) (fun _ _ _ => tab g.length (fun t => L.filter (fun k => decide (t ∈ rowG g k)))) (fun b p => b = tab g.length (fun t => p.filter (fun k => decide (t ∈ rowG g k)))) (fun b hb => ?_) (fun b p x q e hb ih => ?_) _ rfl
 ·refine Ev.succ ?_
  simp only [impl_preds.l0]
  exact Ev.ite_neg (by omega) (Ev.some hb)
 ·refine Ev.succ ?_
  simp only [impl_preds.l0]
  have hl : p.length < L.length:=by rw [e];simp
  have hr : rd L (p.length : Int) = x:=by rw [e];exact rd_mid _ _ _
  have hx:=hme x (by rw [e];simp)
  have hok:=hg.ok (rowG_mem (g:=g) hx.1 hx.2)
  have hle:=hok.le
  refine Ev.ite_pos (by omega) (Ev.ite_pos (by omega) (Ev.ite_pos (by omega) ?_))
  rw [hr]
  refine Ev.ite_pos hx.1 (Ev.ite_pos hx.2 ?_)
  rw [hb]
  refine predRow_ev hg L x _ _ (fun t => ⟨?_,fun y hy => ?_⟩) (rowG g x) (by omega) hok.2 hok.1 ?_
  ·have:=List.length_filter_le (fun k => decide (t ∈ rowG g k)) p
   omega
  ·rw [e,List.pairwise_append] at hri
   exact hri.2.2 y (List.mem_filter.1 hy).1 x (by simp)
  ·rw [wrap_succ (by omega)]
   refine ih _ (tab_congr fun t _ _ => ?_)
   rw [List.filter_append]
   congr 1
   by_cases c : t ∈ rowG g x <;> simp [c]
/-- What EntriesOf answers. -/
def entL (g : List (List Int)) (h : Int) (bd : List Int) : List Int:=(upL g).filter (fun k => decide (h ∈ rowG g k) && !decide (k ∈ bd))
def entIn (g : List (List Int)) (a : Int) : List Int × Bool:=if redB g = true then (if 0 ≤ a ∧ a < (loopsG g).length then (entL g (rd_T58 (loopsG g) a).f0 (rd_T58 (loopsG g) a).f1,true) else ([],false)) else ([],false)
theorem ent_small (g : List (List Int)) (a : Int) (hx : ∀ x ∈ g,x.length ≤ 1048576) : (entIn g a).1.length ≤ 1048576:=by
 unfold entIn
 by_cases h : redB g = true
 ·rw [if_pos h]
  split
  ·have hg:=redB_GG h hx
   have h1:=hg.hi
   have h2:=upL_len g
   have h3:=List.length_filter_le (fun k => decide ((rd_T58 (loopsG g) a).f0 ∈ rowG g k) && !decide (k ∈ (rd_T58 (loopsG g) a).f1)) (upL g)
   unfold entL
   dsimp only
   omega
  ·simp
 ·rw [if_neg h];simp
theorem sEnt_ev (g : List (List Int)) (a : Int) (h0 : g.length ≤ 1048576) (hx : ∀ x ∈ g,x.length ≤ 1048576) : Ev (fun k => spec_EntriesOf.f k g a) (entIn g a):=by
 unfold spec_EntriesOf.f entIn
 refine Ev.bind (sLoops_ev g h0 hx) ?_
 rw [loopIn_eq]
 by_cases h : redB g = true
 ·rw [if_pos h,if_pos h]
  refine Ev.ite_pos rfl ?_
  have hg:=redB_GG h hx
  have hK:=loopsG_KIn hg
  have hhi:=hg.hi
  obtain ⟨hl,hk⟩:=redB_LOk h hx
  generalize loopsG g = ls at hl hk hK ⊢
  have key : Ev (fun k => spec_EntriesOf.j0 k a ls (decide (a < 0 ∨ a ≥ (ls.length : Int))) g) (if 0 ≤ a ∧ a < ls.length then (entL g (rd_T58 ls a).f0 (rd_T58 ls a).f1,true) else ([],false)):=by
   refine Ev.succ ?_
   simp only [spec_EntriesOf.j0]
   by_cases c : 0 ≤ a ∧ a < ls.length
   ·rw [if_pos c]
    refine Ev.ite_neg (by simp;omega) (Ev.bind (sWithout_ev hg (-1) [] (fun x h0 => ⟨fun e => by omega,fun e => by simp at e⟩)) ?_)
    have hm:=rdT_mem c.1 c.2
    have hbl:=(hk.2 _ hm).2
    have hok:=leftG_ok hg []
    have hle:=hok.le
    have hent : entL g (rd_T58 ls a).f0 (rd_T58 ls a).f1 = srt g.length ((leftG g []).filter (fun k => decide ((rd_T58 ls a).f0 ∈ rowG g k) && !decide (k ∈ (rd_T58 ls a).f1))):=by
     unfold entL upL
     rw [List.filter_filter]
     symm
     refine srt_congr fun x _ _ => ?_
     rw [List.mem_filter]
     simp only [Bool.and_eq_true,decide_eq_true_iff]
     exact and_comm
    rw [hent]
    have hnil : ([] : List Int) = srt g.length []:=by
     unfold srt
     exact (List.filter_eq_nil_iff.2 (by simp)).symm
    generalize hR : leftG g [] = R at hok hle ⊢
    rw [hnil]
    refine Ev.rangeI R (fun k (b : List Int) j => spec_EntriesOf.l0 k a ls b R (R.length : Int) j g) (fun _ _ _ => (srt g.length (R.filter (fun k => decide ((rd_T58 ls a).f0 ∈ rowG g k) && !decide (k ∈ (rd_T58 ls a).f1))),true)) (fun b p => b = srt g.length (p.filter (fun k => decide ((rd_T58 ls a).f0 ∈ rowG g k) && !decide (k ∈ (rd_T58 ls a).f1)))) (fun b hb => ?_) (fun b p x q e hb ih => ?_) _ rfl
    ·refine Ev.succ ?_
     simp only [spec_EntriesOf.l0]
     exact Ev.ite_neg (by omega) (Ev.some (by rw [hb]))
    ·refine Ev.succ ?_
     simp only [spec_EntriesOf.l0]
     have hlp : p.length < R.length:=by rw [e];simp
     have hr : rd R (p.length : Int) = x:=by rw [e];exact rd_mid _ _ _
     have hxr:=hok.2 x (by rw [e];simp)
     have hrl:=(hg.ok (rowG_mem (g:=g) hxr.1 hxr.2)).le
     have hrl2 : (rd_L1 g x).length ≤ g.length:=hrl
     refine Ev.ite_pos (by omega) (Ev.ite_pos (by omega) (Ev.ite_pos (by omega) (Ev.ite_pos c.1 (Ev.ite_pos c.2 ?_))))
     rw [hr,wrap_succ (by omega)]
     refine Ev.bind (l1Has_ev _ x (by omega)) ?_
     by_cases c1 : x ∈ (rd_T58 ls a).f1
     ·refine Ev.ite_pos (by simpa using c1) (ih _ ?_)
      rw [hb,List.filter_append]
      simp [c1]
     ·refine Ev.ite_neg (by simpa using c1) (Ev.ite_pos hxr.1 (Ev.ite_pos hxr.2 (Ev.bind (l1Has_ev (rd_L1 g x) _ (by omega)) ?_)))
      by_cases c2 : (rd_T58 ls a).f0 ∈ rd_L1 g x
      ·have c2' : (rd_T58 ls a).f0 ∈ rowG g x:=c2
       refine Ev.ite_pos (by simpa using c2) ?_
       rw [hb]
       refine Ev.bind (l1Put_srt g.length (by omega) _ x hxr.1 hxr.2) (ih _ ?_)
       rw [List.filter_append]
       simp [c1,c2']
      ·have c2' : (rd_T58 ls a).f0 ∉ rowG g x:=c2
       refine Ev.ite_neg (by simpa using c2) (ih _ ?_)
       rw [hb,List.filter_append]
       simp [c2']
   ·rw [if_neg c]
    exact Ev.ite_pos (by simp;omega) (Ev.now _)
  by_cases c : a < 0
  ·refine Ev.ite_pos c ?_
   rw [decide_eq_true (.inl c)] at key
   exact key
  ·refine Ev.ite_neg c ?_
   rw [show decide (a ≥ (ls.length : Int)) = decide (a < 0 ∨ a ≥ (ls.length : Int)) from by rw [decide_eq_decide];omega]
   exact key
 ·rw [if_neg h,if_neg h]
  refine Ev.ite_neg (by simp) (Ev.succ ?_)
  simp only [spec_EntriesOf.j0]
  exact Ev.ite_pos (by trivial) (Ev.now _)
theorem iEnt_ev (g : List (List Int)) (a : Int) (h0 : g.length ≤ 1048576) (hx : ∀ x ∈ g,x.length ≤ 1048576) : Ev (fun k => impl_EntriesOf.f k g a) (entIn g a):=by
 unfold impl_EntriesOf.f impl_loopAt.f entIn
 by_cases h : redB g = true
 ·rw [if_pos h]
  have hg:=redB_GG h hx
  have hK:=loopsG_KIn hg
  have hL:=iLoops_ev hg
  obtain ⟨hl,hk⟩:=redB_LOk h hx
  generalize loopsG g = ls at hl hk hK hL ⊢
  have hw : Ev (fun _ => impl_within.f a 0 (wrap64 ((ls.length : Int) - 1))) (decide (0 ≤ a ∧ a < ls.length)):=by
   rw [wrap64_id (by omega) (by omega)]
   unfold impl_within.f
   by_cases c : a ≥ 0
   ·refine Ev.ite_pos c (Ev.some ?_)
    rw [decide_eq_decide];omega
   ·refine Ev.ite_neg c (Ev.some ?_)
    symm;rw [decide_eq_false_iff_not];omega
  by_cases c : 0 ≤ a ∧ a < ls.length
  ·rw [if_pos c]
   have hm:=rdT_mem c.1 c.2
   have hbl:=(hk.2 _ hm).2
   have hhd:=hK _ hm
   refine Ev.bind (Ev.bind (iRedGraph_ev g h0 hx) (Ev.ite_pos h (Ev.bind hL (Ev.bind hw (Ev.ite_pos (by simpa using c) (Ev.ite_pos c.1 (Ev.ite_pos c.2 (Ev.now _)))))))) (Ev.ite_pos rfl ?_)
   dsimp only
   generalize (rd_T58 ls a).f1 = bd at hbl hhd ⊢
   generalize (rd_T58 ls a).f0 = hd at hhd ⊢
   obtain ⟨⟨hd0,hd1⟩,hne⟩:=hhd
   unfold impl_Graph_entries.f
   refine Ev.bind (Ev.ite_pos (by omega) (Ev.bind (preds_ev hg) (Ev.ite_pos hd0 (Ev.ite_pos (by rw [tab_length];exact hd1) ?_)))) (Ev.now _)
   rw [tab_getD _ hd0 hd1]
   have hpos : 0 < (predL g hd).length:=by
    obtain ⟨s,hs⟩:=List.exists_mem_of_ne_nil _ hne
    obtain ⟨e,he,he1,he2⟩:=stOf_mem.1 hs
    have hr:=backAll_row g g.length e he
    have ha:=(esG_ok hg e he).at_
    refine List.length_pos_of_mem (a:=rd e 0) ?_
    unfold predL
    rw [List.mem_filter,decide_eq_true_iff]
    exact ⟨(upL_mem hg).2 ha,he1 ▸ hr⟩
   refine Ev.ite_pos hpos (Ev.some ?_)
   unfold predL entL
   rw [List.filter_filter]
   refine List.filter_congr fun x _ => ?_
   rw [Bool.and_comm]
  ·rw [if_neg c]
   exact Ev.bind (Ev.bind (iRedGraph_ev g h0 hx) (Ev.ite_pos h (Ev.bind hL (Ev.bind hw (Ev.ite_neg (by simpa using c) (Ev.now _)))))) (Ev.ite_neg (by simp) (Ev.now _))
 ·rw [if_neg h]
  exact Ev.bind (Ev.bind (iRedGraph_ev g h0 hx) (Ev.ite_neg h (Ev.now _))) (Ev.ite_neg (by simp) (Ev.now _))

theorem FnExactEntriesOf : laws_FnExactEntriesOf.Pure:=by
 intro a n ha hx _
 refine Ev.rounds (g:=fun k => laws_FnExactEntriesOf.f k a n) ?_
 unfold laws_FnExactEntriesOf.f
 obtain ⟨r,hr,h⟩:=szGraph_ev a ha (fun x hxm => (hx x hxm).1)
 refine Ev.bind hr ?_
 by_cases hn : r < 0
 ·exact Ev.ite_pos hn (Ev.now _)
 ·obtain ⟨h1,h2⟩:=h.resolve_left hn
  have hs:=ent_small a n h2
  have hta:=totSS_le _ h2
  have tg:=toGraph_ev a h1 h2
  have im:=iEnt_ev a n h1 h2
  have eq:=eqIntS_ev (entIn a n).1 (entIn a n).1 (by omega)
  have eg:=eqGraph_ev a a (by omega) (fun x hxm => by have:=h2 x hxm;omega)
  have mk:=markIntS_ev (entIn a n).1 1 (by omega) (by omega) (by omega)
  have hd:=heldIntS_ev (entIn a n).1.length 1 (by omega) (by omega) (by omega)
  refine Ev.ite_neg hn (Ev.bind tg (Ev.bind (sEnt_ev a n h1 h2) (Ev.bind tg (Ev.bind im ?_))))
  refine Ev.bind eq (Ev.ite_pos (by simp) (Ev.ite_pos rfl (Ev.bind tg (Ev.bind eg (Ev.ite_pos (by simp) (Ev.bind (markGraph_ev a h1 h2) (Ev.ite_neg (by dsimp only;omega) ?_)))))))
  refine Ev.bind eq (Ev.ite_pos (by simp) (Ev.ite_pos rfl (Ev.bind mk (Ev.bind hd (Ev.ite_neg (by omega) (Ev.ite_pos rfl ?_))))))
  refine Ev.bind tg (Ev.bind im (Ev.bind eq (Ev.ite_pos (by simp) (Ev.ite_pos rfl (Ev.bind hd (Ev.ite_neg (by omega) (Ev.ite_pos rfl (Ev.now _))))))))

end Go.Proofs.Ytbmnoenbhlfjaaa.Pure
