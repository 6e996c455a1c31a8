/- Words of our own for walks by hand: reads of rows' elements, of whatever kind; an element's row lent to a call. No conditions. -/
import Derived.Test.YthgkhfhfahifmaaProg
import Derived.Test.YthgkhfhfahifmaaWMore
import Derived.Test.YthgkhfhfahifmaaWNEv
import Derived.Test.YthgkhfhfahifmaaWKept
import Derived.StillTailTactics
import Derived.Laws.CopyOwn
import Derived.Deep.RegionLaw
import Derived.Deep.RegionHeld3
namespace Go.Proofs.Ythgkhfhfahifmaa.Q
set_option linter.unusedVariables false
set_option linter.unusedSimpArgs false
open Go.RowKit Go.Proofs.YthgkhfhfahifmaaW.PrintWords Go.Proofs.YthgkhfhfahifmaaW.PrintLast Go.Proofs.YthgkhfhfahifmaaW.PrintMore

/-- A load that is to be met where it comes up, never first. -/
def laterOp (o : Op) : Op:=o
theorem laterOp_load (t : TypeId) (p : Operand) : Op.load t p = laterOp (Op.load t p):=rfl
@[go_sem] theorem laterOp_eq (o : Op) : laterOp o = o:=rfl
/-- An element's row, read. -/
theorem at_row {α : Type} {d : Kd α} {e : Nat} {w : World} {A : Option Addr} {n : Nat} {xs : List (List α)} (h : Kd.C (Kd.slice e d) w A n xs) (i : Int) (h0 : 0 ≤ i) (h1 : i < n) :
  ∃ ad A0 c0,A = some ad ∧ w.cell? (ad.add i.toNat) = some (.slice A0 (xs.getD i.toNat []).length c0) ∧ (xs.getD i.toNat []).length ≤ c0 ∧ d.C w A0 (xs.getD i.toNat []).length (xs.getD i.toNat []):=by
 obtain ⟨ad,c,he,_,hK,hc0⟩:=Kd.C_get h ([] : List α) i h0 h1
 have hc : ∀ j u,c[j]? = some u → w.cell? (ad.add (i.toNat * 1 + j)) = some u:=hc0
 obtain ⟨A0,c0,rfl,l0,g0⟩:=hK
 exact ⟨ad,A0,c0,he,by have hq:=hc 0 _ rfl;rwa [Nat.mul_one,Nat.add_zero] at hq,l0,g0⟩
/-- An empty literal of rows, just laid. -/
theorem S_lit0 {α : Type} (d : Kd α) (E : Nat) (W : World) : Kd.S d E (W.alloc (.cells #[] E)) W.heap.size (fun _ => True) (.slice (some ⟨W.heap.size,0,none⟩) 0 0) ([] : List α):=by
 refine Kd.S_bare ⟨fun _ _ => trivial,[],?_,⟨by simp,fun j p hj => by simp at hj⟩⟩
 have h2:=World.ownsRow_lit (base:=W.heap.size) (e:=E) (size:=(Kd.bare d).sz) W #[] 0 (Nat.le_refl _) (by simp [maxLen]) (by simp)
 simpa using h2
/-- A literal of one number, just laid. -/
theorem C_lit1 (W : World) (e : TypeId) (i : Int) : (Kd.int .i64).C (W.alloc (.cells #[.int .i64 i] e)) (some ⟨W.heap.size,0,none⟩) [i].length [i]:=by
 refine Kd.C_of_reads (d:=(0 : Int)) (h1:=fun _ => rfl) ⟨rfl,by simp,fun _ => ⟨_,rfl,fun j hj => ?_⟩⟩
 have hj0 : j = 0:=by simpa using hj
 subst hj0
 rw [add_plain,blk_cell (heap_alloc_new W _)]
 rfl
theorem C_lit1_kept {W W' : World} {S : Nat → Prop} (e : TypeId) (i : Int) (hk : Kept (W.alloc (.cells #[.int .i64 i] e)) W' S) (hne : ¬ S W.heap.size) : Kd.C (Kd.int .i64) W' (some ⟨W.heap.size,0,none⟩) [i].length [i]:=by
 refine Kd.C_of_reads (d:=(0 : Int)) (h1:=fun _ => rfl) ⟨rfl,by simp,fun _ => ⟨_,rfl,fun j hj => ?_⟩⟩
 have hj0 : j = 0:=by simpa using hj
 subst hj0
 rw [add_plain,blk_cell (blk_kept (heap_alloc_new W _) hk hne)]
 rfl
section
variable {α β : Type} {d : Kd α} {e E n cap : Nat} {w w' : World} {base : Nat} {P oki ok' : Nat → Prop} {A : Option Addr} {v ve : Value} {xs : List (List α)} {x' : List α} {i : Int}
/-- A row just made by the walk's own rule: its elements are nil rows. -/
theorem S_made (d : Kd α) (e E : Nat) (W : World) (m : Nat) (hm : m ≤ 281474976710656) : Kd.S (Kd.slice e d) E (W.alloc (.cells (madeCells #[.slice none 0 0] m) E)) W.heap.size (fun _ => True) (.slice (some ⟨W.heap.size,0,none⟩) m m) (List.replicate m []):=by
 refine Kd.S_bare ⟨fun _ _ => trivial,(madeCells #[.slice none 0 0] m).toList,?_,?_⟩
 ·rw [List.length_replicate]
  have h2:=World.ownsRow_lit (base:=W.heap.size) (e:=E) (size:=1) W (madeCells #[.slice none 0 0] m) m (Nat.le_refl _) (by simpa [maxLen] using (show m ≤ 9223372036854775807 by omega)) (by simp [size_madeCells])
  exact h2
 ·have:=Kd.reps_made (R:=(Kd.bare (Kd.slice e d)).M (W.alloc (.cells (madeCells #[.slice none 0 0] m) E)) W.heap.size (fun k => True ∧ some k ≠ (Value.slice (some ⟨W.heap.size,0,none⟩) m m).ownBlock)) (z:=.slice none 0 0) (size:=1) (z0:=([] : List α)) rfl (by decide) ⟨_,rfl,Kd.R_nil _ _ _ _ _⟩ m
  rw [Nat.mul_one] at this
  exact this
theorem R_made {enc : β → Value} {h1 : ∀ x,(enc x).oneCell' = true} (z0 : β) (hz : (enc z0).cells = #[enc z0]) (E : Nat) (W : World) (m : Nat) (hm : m ≤ 281474976710656) : (Kd.scalar enc h1).R E (W.alloc (.cells (madeCells #[enc z0] m) E)) W.heap.size (fun _ => True) (.slice (some ⟨W.heap.size,0,none⟩) m m) (List.replicate m z0):=by
 refine ⟨fun _ _ => trivial,(madeCells #[enc z0] m).toList,?_,?_⟩
 ·rw [List.length_replicate]
  have h2:=World.ownsRow_lit (base:=W.heap.size) (e:=E) (size:=1) W (madeCells #[enc z0] m) m (Nat.le_refl _) (by simpa [maxLen] using (show m ≤ 9223372036854775807 by omega)) (by simp [size_madeCells])
  exact h2
 ·have:=Kd.reps_made (R:=(Kd.scalar enc h1).M (W.alloc (.cells (madeCells #[enc z0] m) E)) W.heap.size (fun k => True ∧ some k ≠ (Value.slice (some ⟨W.heap.size,0,none⟩) m m).ownBlock)) (z:=enc z0) (size:=1) (z0:=z0) (by rw [hz];rfl) (by decide) (show _ = [enc z0] by rw [hz]) m
  rw [Nat.mul_one,hz] at this
  exact this
/-- An element's row of a row of rows of the call's own, lent. -/
theorem S_row (h : Kd.S (Kd.slice e d) E w base P (.slice A n cap) xs) (i : Int) (h0 : 0 ≤ i) (h1 : i < n) :
  ∃ g oki ve,A = some ⟨g,0,none⟩ ∧ w.cell? ⟨g,i.toNat,none⟩ = some ve ∧ w.frozen? ⟨g,i.toNat,none⟩ = false ∧ d.R e w base oki ve (xs.getD i.toNat []) ∧ (∀ k,oki k → P k ∧ k ≠ g) ∧ P g ∧ base ≤ g ∧ Kd.H (Kd.slice e d) E w base P (.slice (some ⟨g,0,none⟩) n cap) xs i oki [ve]:=by
 have hn:=(Kd.S_reads' h).1
 obtain ⟨g,cap',hv,hbg,_⟩:=Kd.S_form h (by omega)
 injection hv with ha _ _
 subst ha
 obtain ⟨oki,c,hcl,hM,hcc,hfr,hoki,hH⟩:=Kd.S_elem h ([] : List α) i h0 h1
 obtain ⟨ve,rfl,hR⟩:=hM
 have hx:=hcc 0 _ rfl
 have hf:=hfr 0
 simp only [show (Kd.slice e d).sz = 1 from rfl,Nat.mul_one,Nat.add_zero] at hx hf
 exact ⟨g,oki,ve,rfl,hx,hf,hR,hoki,(Kd.S_R h).1 g (by simp [Value.ownBlock]),hbg,hH⟩
/-- It comes back, written. -/
theorem S_back (hE : d.E = []) (hH : Kd.H (Kd.slice e d) E w base P v xs i oki [ve]) (hk : Kept w w' oki) (hr : d.R e w' base ok' ve x') (hok : ∀ k,ve.ownBlock = some k → oki k) : Kd.S (Kd.slice e d) E w' base P v (xs.set i.toNat x') :=
 Kd.H_back (Kd.H_kept hH hk (fun _ _ h => h)) ⟨ve,rfl,Kd.R_reok hE hr hok⟩ (fun _ h => h)
theorem Kept.from_below {w W W' : World} {S : Nat → Prop} (hb : Below w.heap.size w W) (hk : Kept W W' S) : Kept w W' S:=(Kept.of_below hb S).then_ hk (fun _ h => .inl h)
theorem frozen_kept {S : Nat → Prop} {p : Addr} (hk : Kept w w' S) (hne : ¬ S p.block) (hlt : p.block < w.heap.size) : w'.frozen? p = w.frozen? p:=by
 have:=hk.2 p.block hlt hne
 simp [World.frozen?,this]
theorem frozen_below {p : Addr} (hk : Below w.heap.size w w') (hlt : p.block < w.heap.size) : w'.frozen? p = w.frozen? p:=by
 have:=hk.block p.block hlt
 simp [World.frozen?,this]
/-- The hole is filled by another row. -/
theorem H_fill {g : Nat} {okp : Nat → Prop} {v0 : Value} (hH : Kd.H (Kd.slice e d) E w base P (.slice (some ⟨g,0,none⟩) n cap) xs i oki [ve]) (h0 : 0 ≤ i) (h1 : i < n) (hr : d.R e w base okp v0 x') (hok : ∀ k,okp k → oki k) :
  Kd.S (Kd.slice e d) E (w.setCell ⟨g,i.toNat,none⟩ v0) base P (.slice (some ⟨g,0,none⟩) n cap) (xs.set i.toNat x'):=by
 have hng : ∀ k,oki k → k ≠ g:=by
  intro k hk he
  subst he
  obtain ⟨_,f,hR⟩:=hH
  exact (hR.1 k (by simp [Value.ownBlock])).2 hk
 have hone : v0.oneCell' = true:=(Kd.R_val hr).2
 obtain ⟨h2,h3⟩:=Kd.H_seg hH h0 h1 (seg:=[v0]) (j:=0) (by show 0 + 1 ≤ 1;omega) (by intro q hq;rw [List.mem_singleton.1 hq];exact hone)
 have e1 : w.setCells g (i.toNat * (Kd.slice e d).sz + 0) [v0] = w.setCell ⟨g,i.toNat,none⟩ v0:=by
  simp [World.setCells,show (Kd.slice e d).sz = 1 from rfl]
 rw [e1] at h2 h3
 refine Kd.H_back h2 (x':=x') (okp:=okp) ⟨v0,rfl,?_⟩ hok
 exact Kd.R_step hr (fun k hk hlt => h3.block k hlt (fun he => hng k (hok k hk) (by injection he)))
/-- An element's row was handed to what writes it, and what came of it is stored in its place; F: blocks that nobody writes. -/
theorem S_upd {F : Nat → Prop} {g : Nat} {v0 : Value} (hH : Kd.H (Kd.slice e d) E w base (fun k => ¬ F k) (.slice (some ⟨g,0,none⟩) n cap) xs i oki [ve]) (h0 : 0 ≤ i) (h1 : i < n) (hg : ¬ F g) (hF : ∀ k,F k → k < w.heap.size)
  (hk : Kept w w' oki) (hr : d.R e w' base (fun k => oki k ∨ w.heap.size ≤ k) v0 x') :
  Kd.S (Kd.slice e d) E (w'.setCell ⟨g,i.toNat,none⟩ v0) base (fun k => ¬ F k) (.slice (some ⟨g,0,none⟩) n cap) (xs.set i.toNat x') ∧ ∀ k,F k → (w'.setCell ⟨g,i.toNat,none⟩ v0).heap[k]? = w.heap[k]?:=by
 have hoF : ∀ k,oki k → ¬ F k:=hH.1
 refine ⟨H_fill (Kd.H_kept (Kd.H_widen hH) hk (fun k _ hn h => hn (.inl h))) h0 h1 hr (fun k hk2 => hk2.elim .inl (fun h => .inr ⟨fun hf => by have:=hF k hf;omega,h⟩)),fun k hf => ?_⟩
 exact (Below.heap_setCell w' ⟨g,i.toNat,none⟩ v0 k (fun e => by have e2 : k = g:=e;subst e2;exact hg hf)).trans (hk.2 k (hF k hf) (fun h => hoF k h hf))
/-- What lies in blocks that stay. -/
theorem R_same {F : Nat → Prop} {xs : List α} {v : Value} (h : d.R e w base P v xs) (hok : ∀ k,P k → F k) (hs : ∀ k,F k → w'.heap[k]? = w.heap[k]?) : d.R e w' base P v xs:=Kd.R_step h (fun k hk _ => hs k (hok k hk))
end
/-- A row of rows of the call's own (out) beside a flat one (row); F: the blocks that nobody writes. -/
structure RInv {α β : Type} (d : Kd α) (e E : Nat) (db : Kd β) (eb : Nat) (w W : World) (vo vr : Value) (x : List (List α)) (rs : List β) (F : Nat → Prop) : Prop where
 below : Below w.heap.size w W
 out : Kd.S (Kd.slice e d) E W w.heap.size (fun k => ¬ F k) vo x
 row : db.R eb W w.heap.size (fun k => some k = vr.ownBlock) vr rs
 frow : ∀ k,some k = vr.ownBlock → F k
 flt : ∀ k,F k → k < W.heap.size
section
variable {α β γ : Type} {d : Kd α} {e E : Nat} {db : Kd β} {eb : Nat} {dc : Kd γ} {ec : Nat} {w W W' W4 : World} {vo vr vl ve v0 : Value} {x : List (List α)} {rs : List β} {ls : List γ} {F F' oki : Nat → Prop}
theorem RInv.step (h : RInv d e E db eb w W vo vr x rs F) (hb : Below W.heap.size W W') : RInv d e E db eb w W' vo vr x rs F :=
 ⟨below_step h.below hb,Kd.S_below h.out hb,Kd.R_below h.row hb,h.frow,fun k hk => Nat.lt_of_lt_of_le (h.flt k hk) hb.size⟩
theorem RInv.drewN (h : RInv d e E db eb w W vo vr x rs F) (m : Nat) : RInv d e E db eb w (W.drewN m) vo vr x rs F:=h.step (pw_below_drewN (Below.refl _ _) m)
theorem RInv.drew (h : RInv d e E db eb w W vo vr x rs F) : RInv d e E db eb w W.drew vo vr x rs F:=h.step (below_drew (Below.refl _ _))
/-- A flat row is made: out is apart from it, too. -/
theorem RInv.more (h : RInv d e E db eb w W vo vr x rs F) (hb : Below W.heap.size W W') (hl : dc.R ec W' W.heap.size (fun _ => True) vl ls) :
  RInv d e E db eb w W' vo vr x rs (fun k => F k ∨ some k = vl.ownBlock):=by
 have h2:=h.step hb
 refine ⟨h2.below,?_,h2.row,fun k hk => .inl (h2.frow k hk),fun k hk => hk.elim (h2.flt k) (fun e => Kd.R_lt hl k e.symm)⟩
 exact Kd.S_mono (Kd.S_below (Kd.S_bound h.out) hb) (fun k hk he => he.elim hk.1 (fun e => by have:=Kd.R_base hl k e.symm;have:=hk.2.2.1;omega))
theorem RInv.less (h : RInv d e E db eb w W vo vr x rs (fun k => F k ∨ F' k)) (hr : ∀ k,some k = vr.ownBlock → F k) : RInv d e E db eb w W vo vr x rs F :=
 ⟨h.below,Kd.S_mono h.out (fun k hk hf => hk (.inl hf)),h.row,hr,fun k hk => h.flt k (.inl hk)⟩
/-- An element's row was handed over and stored back. -/
theorem RInv.put {g nn cap : Nat} {y : List α} {i : Int} (h : RInv d e E db eb w W (.slice (some ⟨g,0,none⟩) nn cap) vr x rs F)
  (hH : Kd.H (Kd.slice e d) E W w.heap.size (fun k => ¬ F k) (.slice (some ⟨g,0,none⟩) nn cap) x i oki [ve]) (h0 : 0 ≤ i) (h1 : i < nn) (hg : ¬ F g) (hgb : w.heap.size ≤ g)
  (hk : Kept W W4 oki) (hb : Below w.heap.size w W4) (hr : d.R e W4 w.heap.size (fun k => oki k ∨ W.heap.size ≤ k) v0 y) :
  RInv d e E db eb w (W4.setCell ⟨g,i.toNat,none⟩ v0) (.slice (some ⟨g,0,none⟩) nn cap) vr (x.set i.toNat y) rs F ∧ ∀ k,F k → (W4.setCell ⟨g,i.toNat,none⟩ v0).heap[k]? = W.heap[k]?:=by
 obtain ⟨h2,h3⟩:=S_upd hH h0 h1 hg h.flt hk hr
 exact ⟨⟨hb.setCell hgb _,h2,R_same h.row h.frow h3,h.frow,fun k hf => Nat.lt_of_lt_of_le (h.flt k hf) (Nat.le_trans hk.1 (by simp [World.setCell]))⟩,h3⟩
/-- A new row is stored in an element's place. -/
theorem RInv.fill {g nn cap : Nat} {y : List α} {i : Int} (h : RInv d e E db eb w W (.slice (some ⟨g,0,none⟩) nn cap) vr x rs F) (h0 : 0 ≤ i) (h1 : i < nn) (hb : Below W.heap.size W W4) (hr : d.R e W4 W.heap.size (fun _ => True) v0 y) :
  RInv d e E db eb w (W4.setCell ⟨g,i.toNat,none⟩ v0) (.slice (some ⟨g,0,none⟩) nn cap) vr (x.set i.toNat y) rs F:=by
 obtain ⟨g',oki,ve,hg,_,_,_,_,hPg,hbg,hH⟩:=S_row h.out i h0 h1
 injection hg with hg
 injection hg with hg _ _
 subst hg
 refine (h.put hH h0 h1 hPg hbg (Kept.of_below hb oki) (below_step h.below hb) ?_).1
 exact Kd.R_mono (Kd.R_lower (Kd.R_bound hr) h.below.size) (fun k hk => .inr hk.2.1)
end
section
variable {α β : Type} {d : Kd α} {e E : Nat} {db : Kd β} {eb : Nat} {w W w3 : World} {vr : Value} {rs : List β} {m : Nat}
/-- The row of rows was made first, the flat one behind it. -/
theorem RInv.first (rfl' : db.E = []) (hw : Below w.heap.size w W) (hm : m ≤ 281474976710656) (hb : Below (W.alloc (.cells (madeCells #[.slice none 0 0] m) E)).heap.size (W.alloc (.cells (madeCells #[.slice none 0 0] m) E)) w3) (ho : db.R eb w3 (W.alloc (.cells (madeCells #[.slice none 0 0] m) E)).heap.size (fun _ => True) vr rs) :
  RInv d e E db eb w w3 (.slice (some ⟨W.heap.size,0,none⟩) m m) vr (List.replicate m []) rs (fun k => some k = vr.ownBlock):=by
 have hs:=hw.size
 refine ⟨below_step (hw.alloc hs _) hb,?_,Kd.R_tight rfl' (Kd.R_lower ho (by simp;omega)),fun _ h => h,fun k h => Kd.R_lt ho k h.symm⟩
 exact Kd.S_mono (Kd.S_lower (Kd.S_below (Kd.S_bound (S_made d e E W m hm)) hb) hs) (fun k hk h => by have:=hk.2.2.1;have:=Kd.R_base ho k h.symm;omega)
/-- The flat row was made first. -/
theorem RInv.second (rfl' : db.E = []) (hw : Below w.heap.size w W) (hm : m ≤ 281474976710656) (hb : Below W.heap.size W w3) (ho : db.R eb w3 W.heap.size (fun _ => True) vr rs) :
  RInv d e E db eb w (w3.alloc (.cells (madeCells #[.slice none 0 0] m) E)) (.slice (some ⟨w3.heap.size,0,none⟩) m m) vr (List.replicate m []) rs (fun k => some k = vr.ownBlock):=by
 have hs:=hw.size
 have hb3:=below_step hw hb
 refine ⟨hb3.alloc hb3.size _,?_,Kd.R_tight rfl' (Kd.R_lower (Kd.R_below ho (below_alloc (Below.refl _ _) _)) hs),fun _ h => h,fun k h => by have:=Kd.R_lt ho k h.symm;simp;omega⟩
 exact Kd.S_mono (Kd.S_lower (Kd.S_bound (S_made d e E w3 m hm)) hb3.size) (fun k hk h => by have:=hk.2.1;have:=Kd.R_lt ho k h.symm;omega)
end
section
variable {α β : Type} {enc : α → Value} {h1 : ∀ x,(enc x).oneCell' = true} {e E : Nat} {db : Kd β} {eb : Nat} {w W : World} {vr : Value} {x : List (List α)} {rs : List β} {F : Nat → Prop}
/-- A cell of an element's row is written. -/
theorem RInv.cell {g nn cap : Nat} {i j : Int} (h : RInv (Kd.scalar enc h1) e E db eb w W (.slice (some ⟨g,0,none⟩) nn cap) vr x rs F) (z : α) (h0 : 0 ≤ i) (hn : i < nn) (j0 : 0 ≤ j) (hj : j < ((x.getD i.toNat []).length : Int)) :
  ∃ g2 c2,W.cell? ⟨g,i.toNat,none⟩ = some (.slice (some ⟨g2,0,none⟩) (x.getD i.toNat []).length c2) ∧ W.cell? ⟨g2,j.toNat,none⟩ = some (enc (rdOf z (x.getD i.toNat []) j)) ∧ W.frozen? ⟨g2,j.toNat,none⟩ = false ∧ ¬ F g2 ∧
   ∀ u : α,RInv (Kd.scalar enc h1) e E db eb w (W.setCell ⟨g2,j.toNat,none⟩ (enc u)) (.slice (some ⟨g,0,none⟩) nn cap) vr (x.set i.toNat ((x.getD i.toNat []).set j.toNat u)) rs F:=by
 obtain ⟨g',oki,ve,hg,hx,_,hR,hoki,_,_,hH⟩:=S_row h.out i h0 hn
 injection hg with hg
 injection hg with hg _ _
 subst hg
 obtain ⟨g2,c2,rfl,hb2,hl2,_⟩:=Kd.R_form hR (by omega)
 obtain ⟨hc,hf⟩:=Kd.R_celln z hR j j0 hj
 have ho2 : oki g2:=hR.1 g2 (by simp [Value.ownBlock])
 refine ⟨g2,c2,hx,hc,hf,hH.1 g2 ho2,fun u => ?_⟩
 obtain ⟨hp,hgr⟩:=Kd.R_putg hR j u
 have hk : Kept W (W.setCell ⟨g2,j.toNat,none⟩ (enc u)) oki:=Kept.of_grown hgr (Kept.refl _ _) (fun k e => .inl (by injection e with e;exact e ▸ ho2))
 have hs : ∀ k,F k → (W.setCell ⟨g2,j.toNat,none⟩ (enc u)).heap[k]? = W.heap[k]?:=fun k hf => hk.2 k (h.flt k hf) (fun h2 => hH.1 k h2 hf)
 exact ⟨h.below.setCell hb2 _,S_back rfl hH hk hp hR.1,R_same h.row h.frow hs,h.frow,fun k hf => Nat.lt_of_lt_of_le (h.flt k hf) (by simp [World.setCell])⟩
end
/-! Straight code: what a call made lies between the heap's sizes ahead of it and behind it. -/
abbrev OwnS {α : Type} (d : Kd α) (e : Nat) (w W : World) (lo hi : Nat) (v : Value) (xs : List α) : Prop:=Kd.S d e W w.heap.size (fun k => lo ≤ k ∧ k < hi) v xs
abbrev OwnR {α : Type} (d : Kd α) (e : Nat) (w W : World) (lo hi : Nat) (v : Value) (xs : List α) : Prop:=Kd.R d e W w.heap.size (fun k => lo ≤ k ∧ k < hi) v xs
section
variable {α : Type} {d : Kd α} {e lo hi : Nat} {w W W' : World} {ok : Nat → Prop} {v : Value} {xs : List α}
theorem S_cap {A : Option Addr} {n c base : Nat} (h : Kd.S d e W base ok (.slice A n c) xs) : xs.length ≤ c:=by have:=Kd.S_reads' h;omega
theorem R_cap {A : Option Addr} {n c base : Nat} (h : Kd.R d e W base ok (.slice A n c) xs) : xs.length ≤ c:=by have:=Kd.R_reads' h;omega
theorem OwnS.make (hB : Below w.heap.size w W) (hb : Below W.heap.size W W') (h : Kd.S d e W' W.heap.size ok v xs) : OwnS d e w W' W.heap.size W'.heap.size v xs:=Kd.S_lower (Kd.S_mono (Kd.S_bound h) (fun _ hk => ⟨hk.2.1,hk.2.2.1⟩)) hB.size
theorem OwnR.make (hB : Below w.heap.size w W) (hb : Below W.heap.size W W') (h : Kd.R d e W' W.heap.size ok v xs) : OwnR d e w W' W.heap.size W'.heap.size v xs:=Kd.R_lower (Kd.R_mono (Kd.R_bound h) (fun _ hk => ⟨hk.2.1,hk.2.2.1⟩)) hB.size
theorem OwnS.below (h : OwnS d e w W lo hi v xs) (hb : Below W.heap.size W W') : OwnS d e w W' lo hi v xs:=Kd.S_below h hb
theorem OwnR.below (h : OwnR d e w W lo hi v xs) (hb : Below W.heap.size W W') : OwnR d e w W' lo hi v xs:=Kd.R_below h hb
theorem OwnS.drew (h : OwnS d e w W lo hi v xs) : OwnS d e w W.drew lo hi v xs:=Kd.S_drew h
theorem OwnR.drew (h : OwnR d e w W lo hi v xs) : OwnR d e w W.drew lo hi v xs:=Kd.R_drew h
theorem OwnS.kept {a b : Nat} (h : OwnS d e w W lo hi v xs) (hk : Kept W W' (fun k => a ≤ k ∧ k < b)) (ha : hi ≤ a ∨ b ≤ lo) : OwnS d e w W' lo hi v xs:=Kd.S_kept h hk (fun k h1 h2 => by omega)
theorem OwnR.kept {a b : Nat} (h : OwnR d e w W lo hi v xs) (hk : Kept W W' (fun k => a ≤ k ∧ k < b)) (ha : hi ≤ a ∨ b ≤ lo) : OwnR d e w W' lo hi v xs:=Kd.R_kept h hk (fun k h1 h2 => by omega)
theorem OwnS.stored {g : Nat} {u : Value} (hw : W' = W.setCell ⟨g,0,none⟩ u) (h : OwnS d e w W lo hi v xs) (ha : hi ≤ g ∨ g < lo) : OwnS d e w W' lo hi v xs:=by subst hw;exact Kd.S_far (p:=⟨g,0,none⟩) h (fun k hk => by show k ≠ g;omega) u
theorem OwnR.stored {g : Nat} {u : Value} (hw : W' = W.setCell ⟨g,0,none⟩ u) (h : OwnR d e w W lo hi v xs) (ha : hi ≤ g ∨ g < lo) : OwnR d e w W' lo hi v xs:=by subst hw;exact Kd.R_far (p:=⟨g,0,none⟩) h (fun k hk => by show k ≠ g;omega) u
theorem blk_stored {g b t : Nat} {u : Value} {cs : Array Value} (hw : W' = W.setCell ⟨g,0,none⟩ u) (h : W.heap[b]? = some (.cells cs t (0,0))) (hne : b ≠ g) : W'.heap[b]? = some (.cells cs t (0,0)):=by subst hw;exact blk_far h (p:=⟨g,0,none⟩) hne u
theorem blk_stored0 {g t : Nat} {u : Value} {cs cs' : Array Value} (hw : W' = W.setCell ⟨g,0,none⟩ u) (h : W.heap[g]? = some (.cells cs t (0,0))) (e : cs.setIfInBounds 0 u = cs') : W'.heap[g]? = some (.cells cs' t (0,0)):=by subst hw;exact blk_put h 0 u e
theorem below_stored {g : Nat} {u : Value} (hw : W' = W.setCell ⟨g,0,none⟩ u) (h : Below w.heap.size w W) (hg : w.heap.size ≤ g) : Below w.heap.size w W':=by subst hw;exact below_set h hg
theorem size_stored {g : Nat} {u : Value} (hw : W' = W.setCell ⟨g,0,none⟩ u) : W.heap.size ≤ W'.heap.size:=by subst hw;simp [World.setCell]
end

end Go.Proofs.Ythgkhfhfahifmaa.Q
