-- WRITTEN BY A PROGRAM OF THIS SESSION
import Derived.Test.YtbmnoenbhlfjaaaQ0
import Derived.Test.YtbmnoenbhlfjaaaQ1
import Derived.Test.YtbmnoenbhlfjaaaQ6
import Derived.Test.YtbmnoenbhlfjaaaQ7
import Derived.Test.YtbmnoenbhlfjaaaQ13
import Derived.Test.YtbmnoenbhlfjaaaQ54
import Derived.Test.YtbmnoenbhlfjaaaQ55
import Derived.Test.YtbmnoenbhlfjaaaQ56
import Derived.Test.YtbmnoenbhlfjaaaWMiN
import Derived.Test.YtbmnoenbhlfjaaaShD
namespace Go.Proofs.Ytbmnoenbhlfjaaa.Q
open Go.Shelf Go.Lib Go.Sort Go.RowKit Go.Proofs.YtbmnoenbhlfjaaaW.PrintWords Go.Proofs.YtbmnoenbhlfjaaaW.PrintLast Go.Proofs.YtbmnoenbhlfjaaaW.PrintMore
attribute [local go_sem] max2_int min2_int max_two min_two max_three min_three max_four min_four   -- for this text's walks alone
set_option linter.unusedVariables false
set_option linter.unusedSimpArgs false

/-! ### impl_Graph_entries: function 56 (by hand: slices.DeleteFunc with a literal that captures a box) -/
theorem entries_contains (bd : List Int) (h : bd.length ≤ 1000000) (x : Int) : ∃ k,slices_Contains_int_int.f k bd x = some (decide (x ∈ bd)):=by
 have main : ∀ (q p : List Int),bd = p ++ q → x ∉ p → ∃ k r,slices_Index_int_int.l0 k bd x (bd.length : Int) (p.length : Int) = some r ∧ decide (r ≥ 0) = decide (x ∈ bd):=by
  intro q
  induction q with
  | nil =>
   intro p e hp
   rw [List.append_nil] at e
   refine ⟨1,-1,?_,?_⟩
   ·simp only [slices_Index_int_int.l0]
    rw [if_neg (by rw [e];omega)]
   ·rw [e,decide_eq_false hp];rfl
  | cons y q ih =>
   intro p e hp
   have hlen : p.length < bd.length:=by rw [e];simp
   have hr : rd bd (p.length : Int) = y:=by
    unfold rd
    rw [Int.toNat_natCast,e]
    simp [List.getD_eq_getElem?_getD]
   by_cases c : x = y
   ·refine ⟨1,(p.length : Int),?_,?_⟩
    ·simp only [slices_Index_int_int.l0]
     rw [if_pos (by omega),if_pos (by omega),if_pos (by omega),hr,if_pos c]
    ·rw [decide_eq_true (show (p.length : Int) ≥ 0 by omega),decide_eq_true (show x ∈ bd by rw [e,c];simp)]
   ·obtain ⟨k,r,hk,hd⟩:=ih (p ++ [y]) (by rw [e];simp) (by simp [hp,c])
    refine ⟨k + 1,r,?_,hd⟩
    simp only [slices_Index_int_int.l0]
    rw [if_pos (by omega),if_pos (by omega),if_pos (by omega),hr,if_neg c]
    rw [← hk]
    congr 1
    have hw : wrap64 ((p.length : Int) + 1) = (p.length : Int) + 1:=by unfold wrap64;omega
    rw [hw];simp
 obtain ⟨k,r,hk,hd⟩:=main bd [] rfl (by simp)
 exact ⟨k,by unfold slices_Contains_int_int.f slices_Index_int_int.f;rw [show slices_Index_int_int.l0 k bd x (bd.length : Int) 0 = some r from hk];exact congrArg some hd⟩
set_option maxHeartbeats 8000000 in
set_option maxRecDepth 100000 in
theorem entries_lit (tb : Nat) (A1 : Option Addr) (c1 : Nat) (bd : List Int) (hbl : bd.length ≤ 1000000) (hc1 : bd.length ≤ c1) (x : Int) (W : World) (hc : W.cell? ⟨tb,1,none⟩ = some (.slice A1 bd.length c1)) (hC : Kd.C (Kd.int .i64) W A1 bd.length bd) :
  FnGives Try.prog 84 #[.pointer (some ⟨tb,0,none⟩)] #[.int .i64 x] (.bool (decide (x ∈ bd))) W:=by
 obtain ⟨k,hk⟩:=entries_contains bd hbl x
 have hu58:=Try.underlying58
 have HK:=Aside0.mk hk
 have HC:=Aside0.mk hC
 have HL:=Aside0.mk hc1
 clear hk hC hc1 hbl
 show Calls Try.prog 84 #[.int .i64 x,.pointer (some ⟨tb,0,none⟩)] W fun e w' => e = .returned (.bool (decide (x ∈ bd))) ∧ ∃ q,w' = W.drewN q
 generalize decide (x ∈ bd) = t at HK ⊢
 go_enter Try.func84,Try.ntmps84
 go_wp2_with (go_at_call 50;(refine (slices_Contains_int_int.calls k A1 c1 bd x t _ HC.out HL.out HK.out).mono ?_);rintro e w6 ⟨rfl,⟨nd,rfl⟩⟩)
 go_ret
 exact ⟨rfl,_,rfl⟩
theorem entries_sorted {w w3 : World} {g n : Nat} {os : Array Obj} {dk : Array Int} (hb : Below w.heap.size w w3) (hg : w.heap.size ≤ g) : Below w.heap.size w (sortWorld (Value.int .i64) w3 g 0 n dk os):=by
 have h1 : Below w.heap.size w (Sort.putRow (Value.int .i64) (Sort.ahead w3 n) g 0 dk):=by
  refine ⟨hb.os,hb.tape,hb.output,by rw [Sort.size_putRow];exact hb.size,fun j hj => ?_⟩
  show (w3.heap.modify g _)[j]? = _
  rw [Array.getElem?_modify,if_neg (by omega)]
  exact hb.block j hj
 exact ⟨h1.os,h1.tape,h1.output,by show _ ≤ (_ ++ os).size;rw [Array.size_append];have:=h1.size;omega,fun j hj => (Sort.heap_grow_old _ os (by have:=h1.size;omega)).trans (h1.block j hj)⟩
theorem entries_df {w w3 : World} {tb g cap cb : Nat} {A1 : Option Addr} {bd xs : List Int} {h u : Int} {P0_ : Nat → Prop} (hbl : bd.length ≤ 1000000 ∧ bd.length ≤ cb) (hC : Kd.C (Kd.int .i64) w A1 bd.length bd) (hB : Below w.heap.size w w3) (hX : w3.heap[tb]? = some (.cells #[.int .i64 h,.slice A1 bd.length cb,.int .i64 u] 58 (0,0))) (hR : Kd.R (Kd.int .i64) 3 w3 w.heap.size P0_ (.slice (some ⟨g,0,none⟩) xs.length cap) xs) (htg : tb < g) (hgw : w.heap.size ≤ g) :
  Calls Try.prog 82 #[.slice (some ⟨g,0,none⟩) xs.length cap,.func (.func 84) #[] #[.pointer (some ⟨tb,0,none⟩)]] w3 fun e w' => e = .returned (.slice (some ⟨g,0,none⟩) (xs.filter fun x => !decide (x ∈ bd)).length cap) ∧ Kd.R (Kd.int .i64) 3 w' w.heap.size (fun _ => True) (.slice (some ⟨g,0,none⟩) (xs.filter fun x => !decide (x ∈ bd)).length cap) (xs.filter fun x => !decide (x ∈ bd)) ∧ Below w.heap.size w w':=by
 have hcell : w3.cell? ⟨tb,1,none⟩ = some (.slice A1 bd.length cb):=(blk_cell hX 1).trans rfl
 have h:=deletefunc_calls P0_ g cap xs 84 #[.pointer (some ⟨tb,0,none⟩)] (fun x => decide (x ∈ bd)) w w3 hB hR (enters_of Try.func84 (by kernel_rfl) rfl)
  (fun W x hb => entries_lit tb A1 cb bd hbl.1 hbl.2 x W ((blk_cell (blk_below hX hb) 1).trans rfl) (Kd.C_below hC (below_step hB hb)))
  (fun n os dk x _ => entries_lit tb A1 cb bd hbl.1 hbl.2 x _ (by
   unfold sortWorld
   rw [Sort.cell?_grow _ _ _ (by show tb < (Sort.putRow _ _ _ _ _).heap.size;rw [Sort.size_putRow];exact blk_lt hX),Sort.cell?_putRow_other _ _ g 0 _ _ (Or.inl (by show tb ≠ g;omega))]
   exact hcell) (Kd.C_below hC (entries_sorted hB hgw)))
 refine h.mono ?_
 rintro e w' ⟨rfl,h1,h2,_⟩
 exact ⟨rfl,Kd.R_mono h1 (fun _ _ => trivial),h2⟩
def impl_Graph_entries.f (k : Nat) (g : List (List Int)) (h : Int) (bd : List Int) : Option (List Int):=if bd.length ≤ 1000000 then ((impl_preds.f k g).bind fun ps => (if 0 ≤ h then (if h < (ps.length : Int) then (if 0 < (ps.getD h.toNat []).length then some ((ps.getD h.toNat []).filter fun x => !decide (x ∈ bd)) else none) else none) else none)) else none
theorem impl_Graph_entries.mono : ∀ a0 a1 a2 k,LeO (impl_Graph_entries.f k a0 a1 a2) (impl_Graph_entries.f (k + 1) a0 a1 a2):=by
 intro a0 a1 a2 k
 unfold impl_Graph_entries.f
 repeat' first
   | (with_reducible exact impl_preds.mono _ _)
   | (with_reducible exact LeO.refl _)
   | (with_reducible exact LeO.none _)
   | (with_reducible refine LeO.ite ?_ ?_)
   | (with_reducible refine LeO.bind ?_ (fun _ => ?_))
set_option maxHeartbeats 8000000 in
set_option maxRecDepth 100000 in
theorem impl_Graph_entries.calls (k : Nat) (b : Nat) (A0 : Option Addr) (c0 : Nat) (l0 : List (List Int)) (h : Int) (A1 : Option Addr) (c1 : Nat) (bd : List Int) (u : Int) (r : List Int) (w : World) (hbox : w.heap[b]? = some (.cells #[.slice A0 l0.length c0] 28 (0,0))) (hr0 : Kd.C (Kd.slice 3 (Kd.int .i64)) w A0 l0.length l0) (hc0 : l0.length ≤ c0) (hr1 : Kd.C (Kd.int .i64) w A1 bd.length bd) (hc1 : bd.length ≤ c1) (hf : impl_Graph_entries.f k l0 h bd = some r) :
  Calls Try.prog 56 #[.pointer (some ⟨b,0,none⟩),.agg #[.int .i64 h,.slice A1 bd.length c1,.int .i64 u]] w fun e w' => ∃ v0_ : Value,e = .returned (v0_) ∧ Kd.R (Kd.int .i64) 3 w' w.heap.size (fun _ => True) v0_ r ∧ Below w.heap.size w w':=by
 have hu28:=Try.underlying28
 have hu58:=Try.underlying58
 have HR0:=Aside0.mk hr0
 have HC0:=Aside0.mk hc0
 have HC1:=Aside0.mk hr1
 unfold impl_Graph_entries.f at hf
 by_cases d0 : bd.length ≤ 1000000
 rotate_left
 ·rw [if_neg d0] at hf;exact absurd hf (by simp)
 rw [if_pos d0] at hf
 obtain ⟨ps,A2,H⟩:=Option.bind_eq_some_iff.mp hf
 have A:=Aside0.mk A2
 by_cases d1 : 0 ≤ h
 rotate_left
 ·rw [if_neg d1] at H;exact absurd H (by simp)
 rw [if_pos d1] at H
 by_cases d2 : h < (ps.length : Int)
 rotate_left
 ·rw [if_neg d2] at H;exact absurd H (by simp)
 rw [if_pos d2] at H
 by_cases d3 : 0 < (ps.getD h.toNat []).length
 rotate_left
 ·rw [if_neg d3] at H;exact absurd H (by simp)
 rw [if_pos d3] at H
 obtain rfl:=Option.some.inj H
 obtain ⟨y,hy⟩ : ∃ y,y = ps.getD h.toNat []:=⟨_,rfl⟩
 rw [← hy] at d3 ⊢
 have HY:=Aside0.mk hy
 have Q1:=Aside0.mk d1
 have Q2:=Aside0.mk d2
 have Q3:=Aside0.mk d3
 have HLB:=Aside0.mk (show bd.length ≤ 1000000 ∧ bd.length ≤ c1 from ⟨d0,hc1⟩)
 have p1:=eq_true d1
 have p2:=eq_true d2
 have q1 : decide (0 ≤ h) = true:=decide_eq_true d1
 have q2 : decide (h < (ps.length : Int)) = true:=decide_eq_true d2
 have HBX:=Aside0.mk hbox
 clear hr0 hc0 hr1 hc1 hf d0 d1 d2 d3 A2 H hy hbox
 go_enter Try.func56,Try.ntmps56
 go_upto_region 1 with (fail)
 have HB8:=Aside0.mk (below_drew (below_alloc (Below.refl w.heap.size w) (.cells #[.int .i64 h,.slice A1 bd.length c1,.int .i64 u] 58)))
 have HX8:=Aside0.mk (blk_drew (heap_alloc_new w (.cells #[.int .i64 h,.slice A1 bd.length c1,.int .i64 u] 58)))
 have HBX8:=Aside0.mk (blk_drew (blk_alloc HBX.out (.cells #[.int .i64 h,.slice A1 bd.length c1,.int .i64 u] 58)))
 obtain ⟨tb,htb⟩ : ∃ tb,tb = w.heap.size:=⟨_,rfl⟩
 rw [← htb] at HX8 ⊢
 obtain ⟨wr,hwr⟩ : ∃ wr,wr = w.alloc (.cells #[.int .i64 h,.slice A1 bd.length c1,.int .i64 u] 58):=⟨_,rfl⟩
 rw [← hwr] at HB8 HX8 HBX8 ⊢
 clear hwr htb
 refine start_ (n:=12) (S:=fun w' => w'.cell? ⟨b,0,none⟩ = some (.slice A0 l0.length c0) ∧ w'.cell? ⟨tb,0,none⟩ = some (.int .i64 h)) (ds:=[8,10]) #[false,false,false,false,false,false,false,false,false,false,false,false] (by kernel_rfl) rfl rfl ?_ (fun hHeld => ?_)
 ·exact ⟨(blk_cell HBX8.out 0).trans rfl,(blk_cell HX8.out 0).trans rfl⟩
 generalize hw8 : World.drew wr = w8 at HB8 HX8 HBX8 hHeld ⊢
 clear hw8
 refine pure_ (i:=0) (N:=some 5) (v:=?_) (a':=?_) #[true,false,false,false,false,false,false,false,false,false,false,false] rfl rfl (by kernel_rfl) (fun _ _ _ h => h) (Or.inl ⟨by rfl,?_⟩) ?_ ?_
 rotate_left
 ·intro w'
  go_simp
  with_reducible rfl
 rotate_left
 ·simp only [Act.put,List.setIfInBounds_toArray,List.set_cons_zero,List.set_cons_succ,i64_w,i32_w]
  rfl
 refine pure_ (i:=1) (N:=some 6) (v:=?_) (a':=?_) #[true,true,false,false,false,false,false,false,false,false,false,false] rfl rfl (by kernel_rfl) (fun _ _ _ h => h) (Or.inl ⟨by rfl,?_⟩) ?_ ?_
 rotate_left
 ·intro w'
  go_simp
  with_reducible rfl
 rotate_left
 ·simp only [Act.put,List.setIfInBounds_toArray,List.set_cons_zero,List.set_cons_succ,i64_w,i32_w]
  rfl
 refine pure_ (i:=2) (N:=some 7) (v:=?_) (a':=?_) #[true,true,true,false,false,false,false,false,false,false,false,false] rfl rfl (by kernel_rfl) (fun _ _ _ h => h) (Or.inl ⟨by rfl,?_⟩) ?_ ?_
 rotate_left
 ·intro w'
  go_simp
  with_reducible rfl
 rotate_left
 ·simp only [Act.put,List.setIfInBounds_toArray,List.set_cons_zero,List.set_cons_succ,i64_w,i32_w]
  rfl
 refine pure_ (i:=5) (N:=some 10) (v:=?_) (a':=?_) #[true,true,true,false,false,true,false,false,false,false,false,false] rfl rfl (by kernel_rfl) (fun _ _ _ h => h) (Or.inl ⟨by rfl,?_⟩) ?_ ?_
 rotate_left
 ·intro w'
  go_simp
  with_reducible rfl
 rotate_left
 ·simp only [Act.put,List.setIfInBounds_toArray,List.set_cons_zero,List.set_cons_succ,i64_w,i32_w]
  rfl
 refine pure_ (i:=9) (N:=some 14) (v:=?_) (a':=?_) #[true,true,true,false,false,true,false,false,false,true,false,false] rfl rfl (by kernel_rfl) (fun _ _ _ h => h) (Or.inl ⟨by rfl,?_⟩) ?_ ?_
 rotate_left
 ·intro w'
  go_simp
  with_reducible rfl
 rotate_left
 ·simp only [Act.put,List.setIfInBounds_toArray,List.set_cons_zero,List.set_cons_succ,i64_w,i32_w]
  rfl
 refine take_ (i:=3) (N:=some 8) (v:=?_) (a':=?_) #[true,true,true,true,false,true,false,false,false,true,false,false] rfl rfl (by kernel_rfl) (fun _ _ _ h => h) (Or.inl ⟨by rfl,?_⟩) hHeld ?_ ?_
 rotate_left
 ·rintro w' ⟨s0,s1⟩
  go_simp
  with_reducible rfl
 rotate_left
 ·simp only [Act.put,List.setIfInBounds_toArray,List.set_cons_zero,List.set_cons_succ,i64_w,i32_w]
  rfl
 refine take_ (i:=6) (N:=some 11) (v:=?_) (a':=?_) #[true,true,true,true,false,true,true,false,false,true,false,false] rfl rfl (by kernel_rfl) (fun _ _ _ h => h) (Or.inl ⟨by rfl,?_⟩) hHeld ?_ ?_
 rotate_left
 ·rintro w' ⟨s0,s1⟩
  go_simp
  with_reducible rfl
 rotate_left
 ·simp only [Act.put,List.setIfInBounds_toArray,List.set_cons_zero,List.set_cons_succ,i64_w,i32_w]
  rfl
 refine one_ (i:=4) (N:=some 9) #[true,true,true,true,true,true,true,false,false,true,false,false] rfl rfl (by kernel_rfl) (by decide) (fun K hK => ?_)
 refine goes_ Try.func83 (by kernel_rfl) rfl #[.slice A0 l0.length c0] (by rfl) rfl rfl (by simp only [List.map_toArray,List.map_cons,List.map_nil];rfl) ?_
 with_reducible refine (impl_preds.calls k A0 c0 l0 ps w8 (Kd.C_below HR0.out HB8.out) HC0.out A.out).mono ?_
 rintro e w9 ⟨vp,rfl,hop,hbp⟩
 obtain ⟨Ap,cp,ep⟩:=Kd.S_slice hop
 subst ep
 obtain ⟨gd,okd,ved,hgd,hxd,hfd,hRd,hokd,hPd,hbd2,hHd⟩:=S_row hop h Q1.out Q2.out
 subst hgd
 refine ⟨_,rfl,?_⟩
 replace hRd : Kd.R (Kd.int .i64) 3 w9 w8.heap.size okd ved (ps.getD h.toNat []):=hRd
 rw [← HY.out] at hRd
 obtain ⟨ge,cE,eE,hbe,_⟩:=Kd.R_form hRd Q3.out
 subst eE
 have HX9:=Aside0.mk (blk_below HX8.out hbp)
 have HBX9:=Aside0.mk (blk_below HBX8.out hbp)
 have HB9:=Aside0.mk (below_step HB8.out hbp)
 have HD9:=Aside0.mk hxd
 have HR9:=Aside0.mk (Kd.R_lower hRd HB8.out.size)
 have HGE:=Aside0.mk (Nat.lt_of_lt_of_le (blk_lt HX8.out) hbe)
 have HGW:=Aside0.mk (Nat.le_trans HB8.out.size hbe)
 clear hop hbp hxd hfd hRd hokd hPd hbd2 hHd hbe
 refine hK.out _ _ ?_ (fun hHeld => ?_)
 ·exact ⟨(blk_cell HBX9.out 0).trans rfl,(blk_cell HX9.out 0).trans rfl⟩
 clear hK K
 refine norm_ (a':=?_) ?_ ?_
 rotate_left
 ·show Act.put _ (some 9) _ = _
  simp only [Act.put,List.setIfInBounds_toArray,List.set_cons_zero,List.set_cons_succ,i64_w,i32_w]
  rfl
 refine pure_ (i:=7) (N:=some 12) (v:=?_) (a':=?_) #[true,true,true,true,true,true,true,true,false,true,false,false] rfl rfl (by kernel_rfl) (fun _ _ _ h => h) (Or.inl ⟨by rfl,?_⟩) ?_ ?_
 rotate_left
 ·intro w'
  go_simp
  with_reducible rfl
 rotate_left
 ·simp only [Act.put,List.setIfInBounds_toArray,List.set_cons_zero,List.set_cons_succ,i64_w,i32_w]
  rfl
 refine last_ (i:=8) (N:=some 13) #[true,true,true,true,true,true,true,true,true,true,false,false] rfl rfl (by kernel_rfl) (by decide) (fun K hK => ?_)
 have hxd9:=HD9.out
 refine value_ (w1:=?_) (v:=?_) (by rfl) rfl ?_ ?_
 rotate_left 2
 ·go_simp
  constructor
  ·rfl
  ·rfl
 refine hK.out _ _ ?_
 clear hK K
 refine norm_ (a':=?_) ?_ ?_
 rotate_left
 ·show Act.put _ (some 13) _ = _
  simp only [Act.put,List.setIfInBounds_toArray,List.set_cons_zero,List.set_cons_succ,i64_w,i32_w]
  rfl
 refine last_ (i:=10) (N:=some 15) #[true,true,true,true,true,true,true,true,true,true,true,false] rfl rfl (by kernel_rfl) (by decide) (fun K hK => ?_)
 have HDF:=entries_df (bd:=bd) (xs:=y) (tb:=tb) HLB.out HC1.out HB9.out HX9.out HR9.out HGE.out HGW.out
 refine goes_ Try.func82 (by kernel_rfl) rfl #[.slice (some ⟨ge,0,none⟩) y.length cE,.func (.func 84) #[] #[.pointer (some ⟨tb,0,none⟩)]] (by rfl) rfl rfl (by simp only [List.map_toArray,List.map_cons,List.map_nil];rfl) ?_
 with_reducible refine (HDF).mono ?_
 rintro e w10 ⟨rfl,hor,hbr⟩
 refine ⟨_,rfl,?_⟩
 have HO10:=Aside0.mk hor
 have HB10:=Aside0.mk hbr
 clear hor hbr HDF
 refine hK.out _ _ ?_
 clear hK K
 refine norm_ (a':=?_) ?_ ?_
 rotate_left
 ·show Act.put _ (some 15) _ = _
  simp only [Act.put,List.setIfInBounds_toArray,List.set_cons_zero,List.set_cons_succ,i64_w,i32_w]
  rfl
 refine pure_ (i:=11) (N:=some 4) (v:=?_) (a':=?_) #[true,true,true,true,true,true,true,true,true,true,true,true] rfl rfl (by kernel_rfl) (fun _ _ _ h => h) (Or.inl ⟨by rfl,?_⟩) ?_ ?_
 rotate_left
 ·intro w'
  go_simp
  with_reducible rfl
 rotate_left
 ·simp only [Act.put,List.setIfInBounds_toArray,List.set_cons_zero,List.set_cons_succ,i64_w,i32_w]
  rfl
 refine done_ (by kernel_rfl) ?_
 go_wp2
 go_ret
 exact ⟨_,rfl,HO10.out,HB10.out⟩

/-! ### impl_EntriesOf: function 29 (by hand: a variable whose row a pointer's method hands on) -/
def impl_EntriesOf.f (k : Nat) (g : List (List Int)) (a1 : Int) : Option (List Int × Bool):=(impl_loopAt.f k g a1).bind fun q => (if q.2.2.2 = true then ((impl_Graph_entries.f k g q.1 q.2.1).bind fun r => (some (r,true))) else (some ([],false)))
theorem impl_EntriesOf.mono : ∀ a0 a1 k,LeO (impl_EntriesOf.f k a0 a1) (impl_EntriesOf.f (k + 1) a0 a1):=by
 intro a0 a1 k
 unfold impl_EntriesOf.f
 repeat' first
   | (with_reducible exact impl_loopAt.mono _ _ _)
   | (with_reducible exact impl_Graph_entries.mono _ _ _ _)
   | (with_reducible exact LeO.refl _)
   | (with_reducible exact LeO.none _)
   | (with_reducible refine LeO.ite ?_ ?_)
   | (with_reducible refine LeO.bind ?_ (fun _ => ?_))
set_option maxHeartbeats 8000000 in
set_option maxRecDepth 100000 in
theorem impl_EntriesOf.calls (k : Nat) (A0_0 : Option Addr) (c0_0 : Nat) (l0_0 : List (List Int)) (a1 : Int) (r1 : List Int) (r2 : Bool) (w : World) (hr0_0 : Kd.C (Kd.slice 3 (Kd.int .i64)) w A0_0 l0_0.length l0_0) (hc0_0 : l0_0.length ≤ c0_0) (h : impl_EntriesOf.f k l0_0 a1 = some (r1,r2)) :
  Calls Try.prog 29 #[.agg #[.slice A0_0 l0_0.length c0_0],.int .i64 a1] w fun e w' => ∃ v0_ : Value,e = .returned (.tuple #[v0_,.bool r2]) ∧ Kd.R (Kd.int .i64) 3 w' w.heap.size (fun _ => True) v0_ r1 ∧ Below w.heap.size w w':=by
 have hu27:=Try.underlying28
 have hu58:=Try.underlying58
 have HR0:=Aside0.mk hr0_0
 have HC0:=Aside0.mk hc0_0
 clear hr0_0 hc0_0
 unfold impl_EntriesOf.f at h
 obtain ⟨⟨q0,q1,q2,q3⟩,A1,H⟩:=Option.bind_eq_some_iff.mp h
 have A:=Aside0.mk A1
 dsimp only at H
 have HBX:=Aside0.mk (heap_alloc_new w (.cells #[.slice A0_0 l0_0.length c0_0] 28))
 have HB:=Aside0.mk (below_alloc (Below.refl w.heap.size w) (.cells #[.slice A0_0 l0_0.length c0_0] 28))
 clear h A1
 cases q3 with
 | false =>
  rw [if_neg (by decide)] at H
  simp only [Option.some.injEq,Prod.mk.injEq] at H
  obtain ⟨rfl,rfl⟩:=H
  go_enter Try.func29,Try.ntmps29
  go_wp2_with (go_at_call 52;(refine (impl_loopAt.calls k A0_0 c0_0 l0_0 a1 q0 q1 q2 false _ (Kd.C_below HR0.out HB.out) HC0.out A.out).mono ?_);rintro e w2 ⟨v0,rfl,ho,hb⟩;obtain ⟨Ab,cb,eb⟩:=Kd.R_slice ho;subst eb;have HO:=Aside0.mk (Kd.R_lower ho HB.out.size);have HB2:=Aside0.mk (below_step HB.out hb);have HBX2:=Aside0.mk (blk_below HBX.out hb);clear ho hb)
  go_ret2
  exact ⟨_,rfl,Kd.R_nil _ _ _ _ _,below_alloc HB2.out _⟩
 | true =>
  rw [if_pos rfl] at H
  obtain ⟨x,B1,H⟩:=Option.bind_eq_some_iff.mp H
  simp only [Option.some.injEq,Prod.mk.injEq] at H
  obtain ⟨rfl,rfl⟩:=H
  have B:=Aside0.mk B1
  clear B1
  go_enter Try.func29,Try.ntmps29
  go_wp2_with (first | (go_at_call 52;(refine (impl_loopAt.calls k A0_0 c0_0 l0_0 a1 q0 q1 q2 true _ (Kd.C_below HR0.out HB.out) HC0.out A.out).mono ?_);rintro e w2 ⟨v0,rfl,ho,hb⟩;obtain ⟨Ab,cb,eb⟩:=Kd.R_slice ho;subst eb;have HO:=Aside0.mk (Kd.R_lower ho HB.out.size);have HB2:=Aside0.mk (below_step HB.out hb);have HBX2:=Aside0.mk (blk_below HBX.out hb);clear ho hb) | (go_at_call 56;(refine (impl_Graph_entries.calls k w.heap.size A0_0 c0_0 l0_0 q0 Ab cb q1 q2 x _ (blk_alloc HBX2.out _) (Kd.C_below HR0.out (below_alloc HB2.out _)) HC0.out (Kd.C_alloc (Kd.R_reads' HO.out).2.2 _) (Kd.R_reads' HO.out).2.1 B.out).mono ?_);rintro e w3 ⟨v3,rfl,ho,hb⟩;have HO3:=Aside0.mk (Kd.R_lower ho (below_alloc HB2.out _).size);have HB3:=Aside0.mk (below_step (below_alloc HB2.out _) hb);clear ho hb;obtain ⟨Av,cv,ev⟩:=Kd.R_slice HO3.out;subst ev))
  go_ret2
  exact ⟨_,rfl,HO3.out,HB3.out⟩

/-! ### laws_heldIntS: function 32 -/
def laws_heldIntS.l0 : Nat → List Int → Int → Int → Option (Int)
 | 0,_,_,_ => none
 | k + 1,x0,x1,x5 => if x5 < (x0.length : Int) then (if 0 ≤ x5 then (if (rd x0 x5) = x1 then (laws_heldIntS.l0 k x0 (wrap64 (x1 + 1)) (wrap64 (x5 + 1))) else (some (-1))) else (none)) else (some x1)
def laws_heldIntS.f (k : Nat) (l0 : List Int) (a1 : Int) : Option (Int):=laws_heldIntS.l0 k l0 a1 0
theorem laws_heldIntS.mono_l : ∀ k,(∀ y0 y1 y2,LeO (laws_heldIntS.l0 k y0 y1 y2) (laws_heldIntS.l0 (k + 1) y0 y1 y2))
 | 0 => fun _ _ _ r h => by simp [laws_heldIntS.l0] at h
 | k + 1 => by
  have ih0:=laws_heldIntS.mono_l k
  ·intro y0 y1 y2
   unfold laws_heldIntS.l0
   repeat' first
   | (with_reducible exact ih0 _ _ _)
   | (with_reducible exact LeO.refl _)
   | (with_reducible exact LeO.none _)
   | (with_reducible refine LeO.ite ?_ ?_)
   | (with_reducible refine LeO.bind ?_ (fun _ => ?_))
   | exact ih0 _ _ _
   | exact LeO.none _
   | refine LeO.ite ?_ ?_
   | refine LeO.bind ?_ (fun _ => ?_)
theorem laws_heldIntS.mono : ∀ a0 a1 k,LeO (laws_heldIntS.f k a0 a1) (laws_heldIntS.f (k + 1) a0 a1):=by
 intro a0 a1 k
 have ih0:=laws_heldIntS.mono_l k
 unfold laws_heldIntS.f
 repeat' first
   | (with_reducible exact ih0 _ _ _)
   | (with_reducible exact LeO.refl _)
   | (with_reducible exact LeO.none _)
   | (with_reducible refine LeO.ite ?_ ?_)
   | (with_reducible refine LeO.bind ?_ (fun _ => ?_))
   | exact ih0 _ _ _
   | exact LeO.none _
   | refine LeO.ite ?_ ?_
   | refine LeO.bind ?_ (fun _ => ?_)
set_option maxHeartbeats 8000000 in
set_option maxRecDepth 100000 in
theorem laws_heldIntS.calls (k : Nat) (A0 : Option Addr) (c0 : Nat) (l0 : List Int) (a1 : Int) (r : Int) (w : World) (hr0 : Kd.C (Kd.int .i64) w A0 l0.length l0) (hc0 : l0.length ≤ c0) (h : laws_heldIntS.f k l0 a1 = some r) :
  Calls Try.prog 32 #[.slice A0 l0.length c0,.int .i64 a1] w fun e w' => e = .returned (.int .i64 r) ∧ Drawn0 w w':=by
 have HR0:=Aside0.mk hr0
 have HC0:=Aside0.mk hc0
 clear hr0 hc0
 have H : (laws_heldIntS.l0 k l0 a1 0) = some r:=h
 clear h
 have H':=Aside0.mk H
 clear H
 go_enter Try.func32,Try.ntmps32
 go_wp2
 go_loopg [1,5] k (fun kq v1 v5 w' => ∃ (x1_1 : Int) (x5_1 : Int),v1 = .int .i64 x1_1 ∧ v5 = .int .i64 x5_1 ∧ Aside0 (laws_heldIntS.l0 kq l0 x1_1 x5_1 = some r) ∧ Aside0 (kq ≤ k) ∧ Drawn0 w w')
 case atStart => exact ⟨(a1),(0),(by first | rfl | (simp;done) | (simp [*];done)),(by first | rfl | (simp;done) | (simp [*];done)),H',⟨Nat.le_refl _⟩,by repeat (first | exact Drawn0.refl _ | apply Drawn0.step)⟩
 case round =>
  clear H'
  try clear p2
  obtain ⟨x1_1,x5_1,rfl,rfl,HA,HK1,⟨m1,rfl⟩⟩:=hrel
  cases gk with
  | zero => exact absurd HA.out (by simp [laws_heldIntS.l0])
  | succ k1 =>
   have H:=HA.out
   clear HA
   simp only [laws_heldIntS.l0] at H
   by_cases c3 : x5_1 < (l0.length : Int)
   ·rw [if_pos c3] at H
    have c3b0 : decide (x5_1 < (l0.length : Int)) = true:=decide_eq_true c3
    clear c3
    by_cases c4 : 0 ≤ x5_1
    ·rw [if_pos c4] at H
     have c4b0 : decide (0 ≤ x5_1) = true:=decide_eq_true c4
     clear c4
     by_cases c5 : (rd l0 x5_1) = x1_1
     ·rw [if_pos c5] at H
      have c5b0 : ((rd l0 x5_1) == x1_1) = true:=beq_iff_eq.mpr c5
      have c5b1 : ((rd l0 x5_1) != x1_1) = false:=bne_eq_false_iff_eq.mpr c5
      clear c5
      have H':=Aside0.mk H
      clear H
      have p313 : 0 ≤ (x5_1 : Int):=of_decide_eq_true (by first | (with_reducible assumption) | assumption)
      have q313 : x5_1 < (l0.length : Int):=of_decide_eq_true (by first | (with_reducible assumption) | assumption)
      obtain ⟨ad313,e313,hx313_0⟩:=Kd.at_int HR0.out x5_1 p313 q313
      cases e313
      replace p313:=eq_true p313
      replace q313:=eq_true q313
      go_wp2
      go_roundg k1
      case measure => have:=HK1.out;omega
      case rel => exact ⟨(wrap64 (x1_1 + 1)),(wrap64 (x5_1 + 1)),(by first | rfl | (simp;done) | (simp [*];done)),(by first | rfl | (simp;done) | (simp [*];done)),H',⟨by have:=HK1.out;omega⟩,by repeat (first | exact Drawn0.refl _ | apply Drawn0.step)⟩
     ·rw [if_neg c5] at H
      have c5b0 : ((rd l0 x5_1) == x1_1) = false:=beq_eq_false_iff_ne.mpr c5
      have c5b1 : ((rd l0 x5_1) != x1_1) = true:=bne_iff_ne.mpr c5
      obtain rfl:=Option.some.inj H
      have p313 : 0 ≤ (x5_1 : Int):=of_decide_eq_true (by first | (with_reducible assumption) | assumption)
      have q313 : x5_1 < (l0.length : Int):=of_decide_eq_true (by first | (with_reducible assumption) | assumption)
      obtain ⟨ad313,e313,hx313_0⟩:=Kd.at_int HR0.out x5_1 p313 q313
      cases e313
      replace p313:=eq_true p313
      replace q313:=eq_true q313
      go_wp2
      go_ret
      exact ⟨by first | rfl | (simp;done) | (simp [*];done),by repeat (first | exact Drawn0.refl _ | apply Drawn0.step)⟩
    ·rw [if_neg c4] at H
     exact absurd H (by simp)
   ·rw [if_neg c3] at H
    have c3b0 : decide (x5_1 < (l0.length : Int)) = false:=decide_eq_false c3
    clear c3
    obtain rfl:=Option.some.inj H
    go_wp2
    go_ret
    exact ⟨by first | rfl | (simp;done) | (simp [*];done),by repeat (first | exact Drawn0.refl _ | apply Drawn0.step)⟩

-- WRITTEN BY lawgen.py
/-! ### laws_FnExactEntriesOf: function 7 (by lawgen.py: rows in rows are marked) -/
def laws_FnExactEntriesOf.f (k : Nat) (l0_0 : List (List Int)) (a1 : Int) : Option Bool:=(laws_szGraph.f k l0_0 1048576).bind fun t5 => (if t5 < 0 then (some true) else ((laws_toGraph.f k l0_0).bind fun t10 => ((spec_EntriesOf.f k t10 a1).bind fun bt19 => ((laws_toGraph.f k l0_0).bind fun t29 => ((impl_EntriesOf.f k t29 a1).bind fun bt43 => ((laws_eqIntS.f k bt43.1 bt19.1).bind fun t53 => (if t53 = true then (if bt43.2 = bt19.2 then ((laws_toGraph.f k l0_0).bind fun t58 => ((laws_eqGraph.f k t29 t58).bind fun t67 => (if t67 = true then ((laws_markGraph.f k t29 1).bind fun bt73 => (if bt73.1 < 0 then (none) else ((laws_eqIntS.f k bt43.1 bt19.1).bind fun t80 => (if t80 = true then (if bt43.2 = bt19.2 then ((laws_markIntS.f k bt43.1 1).bind fun bt85 => ((laws_heldIntS.f k bt85.2 1).bind fun t92 => (if t92 < 0 then (none) else (if t92 = bt85.1 then ((laws_toGraph.f k l0_0).bind fun t97 => ((impl_EntriesOf.f k t97 a1).bind fun bt106 => ((laws_eqIntS.f k bt106.1 bt19.1).bind fun t116 => (if t116 = true then (if bt106.2 = bt19.2 then ((laws_heldIntS.f k bt85.2 1).bind fun t121 => (if t121 < 0 then (none) else (if t121 = bt85.1 then (some true) else none))) else none) else none)))) else none)))) else none) else none)))) else none))) else none) else none)))))))
theorem laws_FnExactEntriesOf.mono : ∀ a0 a1 k,LeO (laws_FnExactEntriesOf.f k a0 a1) (laws_FnExactEntriesOf.f (k + 1) a0 a1):=by
 intro a0 a1 k
 unfold laws_FnExactEntriesOf.f
 repeat' first
   | (with_reducible exact laws_szGraph.mono _ _ _)
   | (with_reducible exact laws_toGraph.mono _ _)
   | (with_reducible exact spec_EntriesOf.mono _ _ _)
   | (with_reducible exact impl_EntriesOf.mono _ _ _)
   | (with_reducible exact laws_eqIntS.mono _ _ _)
   | (with_reducible exact laws_eqGraph.mono _ _ _)
   | (with_reducible exact laws_markGraph.mono _ _ _)
   | (with_reducible exact laws_markIntS.mono _ _ _)
   | (with_reducible exact laws_heldIntS.mono _ _ _)
   | (with_reducible exact LeO.refl _)
   | (with_reducible exact LeO.none _)
   | (with_reducible refine LeO.ite ?_ ?_)
   | (with_reducible refine LeO.bind ?_ (fun _ => ?_))
set_option maxHeartbeats 8000000 in
set_option maxRecDepth 100000 in
theorem laws_FnExactEntriesOf.calls (k : Nat) (A0_0 : Option Addr) (c0_0 : Nat) (l0_0 : List (List Int)) (a1 : Int) (r : Bool) (w : World) (hr0_0 : Kd.C (Kd.slice 3 (Kd.int .i64)) w A0_0 l0_0.length l0_0) (hc0_0 : l0_0.length ≤ c0_0) (h : laws_FnExactEntriesOf.f k l0_0 a1 = some r) :
  Calls Try.prog 7 #[.agg #[.slice A0_0 l0_0.length c0_0],.int .i64 a1] w fun e w' => e = .returned (.bool r) ∧ Below w.heap.size w w':=by
 have hu24:=Try.underlying24
 have hu28:=Try.underlying28
 have HR0_0:=Aside0.mk hr0_0
 have HC0_0:=Aside0.mk hc0_0
 clear hr0_0 hc0_0
 have tok7 : Aside0 True:=⟨trivial⟩
 have tok12 : Aside0 True:=⟨trivial⟩
 have tok22 : Aside0 True:=⟨trivial⟩
 have tok31 : Aside0 True:=⟨trivial⟩
 have tok46 : Aside0 True:=⟨trivial⟩
 have tok55 : Aside0 True:=⟨trivial⟩
 have tok60 : Aside0 True:=⟨trivial⟩
 have tok69 : Aside0 True:=⟨trivial⟩
 have tok76 : Aside0 True:=⟨trivial⟩
 have tok82 : Aside0 True:=⟨trivial⟩
 have tok88 : Aside0 True:=⟨trivial⟩
 have tok94 : Aside0 True:=⟨trivial⟩
 have tok99 : Aside0 True:=⟨trivial⟩
 have tok109 : Aside0 True:=⟨trivial⟩
 have tok118 : Aside0 True:=⟨trivial⟩
 have tok123 : Aside0 True:=⟨trivial⟩
 have HB:=Aside0.mk (Below.refl w.heap.size w)
 unfold laws_FnExactEntriesOf.f at h
 have bq_ : ∀ b_ : Bool,(b_ != b_) = false:=by decide
 replace h:=Option.bind_eq_some_iff.mp h
 obtain ⟨t5,A40,h⟩:=h
 (try dsimp only at h)
 have A4:=Aside0.mk A40
 clear A40
 by_cases c1 : t5 < 0
 ·rw [if_pos c1] at h
  obtain rfl:=Option.some.inj h
  have c1b : decide (t5 < 0) = true:=decide_eq_true c1
  clear c1
  go_enter Try.func7,Try.ntmps7
  go_wp2_with (first | ((with_reducible refine gate_dst (N:=2) rfl ?_);refine box_event ?hg (N:=2) ?hd (cs:=#[.slice A0_0 l0_0.length c0_0]) (t:=24) ?hr ?_;(case hd => rfl);(case hg => rfl);(case hr => first | (go_simp;done) | (go_simp;rfl));intro gb1 hg w3 hbox hb;have B2:=Aside0.mk hbox;have B2n:=Aside0.mk hg;have nb_:=Aside0.mk (below_step HB.out hb);clear HB;have HB:=nb_;clear nb_;have B2z:=Aside0.mk hb.size;have B2y:=Aside0.mk (blk_lt B2.out);clear hb hbox hg;have hczgb1 : w3.cell? ⟨gb1,0,none⟩ = some (.slice A0_0 l0_0.length c0_0):=(blk_cell B2.out 0).trans rfl;have hfzgb1:=blk_frozen B2.out 0) | (go_at_call 10;have u_:=tok7;clear u_;((with_reducible refine (laws_szGraph.calls k _ _ l0_0 1048576 t5 _ (Kd.C_below HR0_0.out HB.out) HC0_0.out A4.out).mono ?_));(try clear hczgb1 hfzgb1);rintro e w6 ⟨rfl,hb⟩;have m0_:=Aside0.mk (blk_below B2.out hb);have nb_:=Aside0.mk (below_step HB.out hb);clear B2 HB;have B2:=m0_;have HB:=nb_;clear m0_ nb_;have Z8:=Aside0.mk hb.size;clear hb tok7;have hczgb1 : w6.cell? ⟨gb1,0,none⟩ = some (.slice A0_0 l0_0.length c0_0):=(blk_cell B2.out 0).trans rfl;have hfzgb1:=blk_frozen B2.out 0))
  go_ret
  exact ⟨rfl,HB.out⟩
 rw [if_neg c1] at h
 have c1b : decide (t5 < 0) = false:=decide_eq_false c1
 clear c1
 replace h:=Option.bind_eq_some_iff.mp h
 obtain ⟨t10,A90,h⟩:=h
 (try dsimp only at h)
 have A9:=Aside0.mk A90
 clear A90
 replace h:=Option.bind_eq_some_iff.mp h
 obtain ⟨⟨t19,t20⟩,A180,h⟩:=h
 (try dsimp only at h)
 have A18:=Aside0.mk A180
 clear A180
 replace h:=Option.bind_eq_some_iff.mp h
 obtain ⟨t29,A280,h⟩:=h
 (try dsimp only at h)
 have A28:=Aside0.mk A280
 clear A280
 replace h:=Option.bind_eq_some_iff.mp h
 obtain ⟨⟨t43,t44⟩,A420,h⟩:=h
 (try dsimp only at h)
 have A42:=Aside0.mk A420
 clear A420
 replace h:=Option.bind_eq_some_iff.mp h
 obtain ⟨t53,A520,h⟩:=h
 (try dsimp only at h)
 have A52:=Aside0.mk A520
 clear A520
 cases t53 with
 | false => exact absurd h (by simp)
 | true =>
  rw [if_pos rfl] at h
  by_cases c2 : t44 = t20
  rotate_left
  ·rw [if_neg c2] at h;exact absurd h (by simp)
  rw [if_pos c2] at h
  have c2b : (t44 != t20) = false:=by rw [c2];simp
  have c2d : (t44 == t20) = true:=by rw [c2];simp
  have C2:=Aside0.mk c2
  clear c2
  replace h:=Option.bind_eq_some_iff.mp h
  obtain ⟨t58,A570,h⟩:=h
  (try dsimp only at h)
  have A57:=Aside0.mk A570
  clear A570
  replace h:=Option.bind_eq_some_iff.mp h
  obtain ⟨t67,A660,h⟩:=h
  (try dsimp only at h)
  have A66:=Aside0.mk A660
  clear A660
  cases t67 with
  | false => exact absurd h (by simp)
  | true =>
   rw [if_pos rfl] at h
   replace h:=Option.bind_eq_some_iff.mp h
   obtain ⟨⟨t73,t74⟩,A720,h⟩:=h
   (try dsimp only at h)
   have A72:=Aside0.mk A720
   clear A720
   by_cases c3 : t73 < 0
   ·rw [if_pos c3] at h;exact absurd h (by simp)
   rw [if_neg c3] at h
   have c3b : decide (t73 < 0) = false:=decide_eq_false c3
   clear c3
   replace h:=Option.bind_eq_some_iff.mp h
   obtain ⟨t80,A790,h⟩:=h
   (try dsimp only at h)
   have A79:=Aside0.mk A790
   clear A790
   cases t80 with
   | false => exact absurd h (by simp)
   | true =>
    rw [if_pos rfl] at h
    by_cases c4 : t44 = t20
    rotate_left
    ·rw [if_neg c4] at h;exact absurd h (by simp)
    rw [if_pos c4] at h
    have c4b : (t44 != t20) = false:=by rw [c4];simp
    have c4d : (t44 == t20) = true:=by rw [c4];simp
    have C4:=Aside0.mk c4
    clear c4
    replace h:=Option.bind_eq_some_iff.mp h
    obtain ⟨⟨t85,t86⟩,A840,h⟩:=h
    (try dsimp only at h)
    have A84:=Aside0.mk A840
    clear A840
    replace h:=Option.bind_eq_some_iff.mp h
    obtain ⟨t92,A910,h⟩:=h
    (try dsimp only at h)
    have A91:=Aside0.mk A910
    clear A910
    by_cases c5 : t92 < 0
    ·rw [if_pos c5] at h;exact absurd h (by simp)
    rw [if_neg c5] at h
    have c5b : decide (t92 < 0) = false:=decide_eq_false c5
    clear c5
    by_cases c6 : t92 = t85
    rotate_left
    ·rw [if_neg c6] at h;exact absurd h (by simp)
    rw [if_pos c6] at h
    have c6b : (t92 != t85) = false:=by rw [c6];simp
    have c6d : (t92 == t85) = true:=by rw [c6];simp
    have C6:=Aside0.mk c6
    clear c6
    replace h:=Option.bind_eq_some_iff.mp h
    obtain ⟨t97,A960,h⟩:=h
    (try dsimp only at h)
    have A96:=Aside0.mk A960
    clear A960
    replace h:=Option.bind_eq_some_iff.mp h
    obtain ⟨⟨t106,t107⟩,A1050,h⟩:=h
    (try dsimp only at h)
    have A105:=Aside0.mk A1050
    clear A1050
    replace h:=Option.bind_eq_some_iff.mp h
    obtain ⟨t116,A1150,h⟩:=h
    (try dsimp only at h)
    have A115:=Aside0.mk A1150
    clear A1150
    cases t116 with
    | false => exact absurd h (by simp)
    | true =>
     rw [if_pos rfl] at h
     by_cases c7 : t107 = t20
     rotate_left
     ·rw [if_neg c7] at h;exact absurd h (by simp)
     rw [if_pos c7] at h
     have c7b : (t107 != t20) = false:=by rw [c7];simp
     have c7d : (t107 == t20) = true:=by rw [c7];simp
     have C7:=Aside0.mk c7
     clear c7
     replace h:=Option.bind_eq_some_iff.mp h
     obtain ⟨t121,A1200,h⟩:=h
     (try dsimp only at h)
     have A120:=Aside0.mk A1200
     clear A1200
     by_cases c8 : t121 < 0
     ·rw [if_pos c8] at h;exact absurd h (by simp)
     rw [if_neg c8] at h
     have c8b : decide (t121 < 0) = false:=decide_eq_false c8
     clear c8
     by_cases c9 : t121 = t85
     rotate_left
     ·rw [if_neg c9] at h;exact absurd h (by simp)
     rw [if_pos c9] at h
     have c9b : (t121 != t85) = false:=by rw [c9];simp
     have c9d : (t121 == t85) = true:=by rw [c9];simp
     have C9:=Aside0.mk c9
     clear c9
     obtain rfl:=Option.some.inj h
     go_enter Try.func7,Try.ntmps7
     go_upto_region 10 with (first | ((with_reducible refine gate_dst (N:=2) rfl ?_);refine box_event ?hg (N:=2) ?hd (cs:=#[.slice A0_0 l0_0.length c0_0]) (t:=24) ?hr ?_;(case hd => rfl);(case hg => rfl);(case hr => first | (go_simp;done) | (go_simp;rfl));intro gb1 hg w3 hbox hb;have B2:=Aside0.mk hbox;have B2n:=Aside0.mk hg;have nb_:=Aside0.mk (below_step HB.out hb);clear HB;have HB:=nb_;clear nb_;have B2z:=Aside0.mk hb.size;have B2y:=Aside0.mk (blk_lt B2.out);clear hb hbox hg;have hczgb1 : w3.cell? ⟨gb1,0,none⟩ = some (.slice A0_0 l0_0.length c0_0):=(blk_cell B2.out 0).trans rfl;have hfzgb1:=blk_frozen B2.out 0) | (go_at_call 10;have u_:=tok7;clear u_;((with_reducible refine (laws_szGraph.calls k _ _ l0_0 1048576 t5 _ (Kd.C_below HR0_0.out HB.out) HC0_0.out A4.out).mono ?_));(try clear hczgb1 hfzgb1);rintro e w6 ⟨rfl,hb⟩;have m0_:=Aside0.mk (blk_below B2.out hb);have nb_:=Aside0.mk (below_step HB.out hb);clear B2 HB;have B2:=m0_;have HB:=nb_;clear m0_ nb_;have Z8:=Aside0.mk hb.size;clear hb tok7;have hczgb1 : w6.cell? ⟨gb1,0,none⟩ = some (.slice A0_0 l0_0.length c0_0):=(blk_cell B2.out 0).trans rfl;have hfzgb1:=blk_frozen B2.out 0) | (go_at_call 12;have u_:=tok12;clear u_;((with_reducible refine (laws_toGraph.calls k _ _ l0_0 t10 _ (Kd.C_below HR0_0.out HB.out) HC0_0.out A9.out).mono ?_));(try clear hczgb1 hfzgb1);rintro e w11 ⟨v13,rfl,ho0,hb⟩;have nF14_:=Aside0.mk (OwnS.make HB.out hb ho0);have m0_:=Aside0.mk (blk_below B2.out hb);have nb_:=Aside0.mk (below_step HB.out hb);clear B2 HB;have B2:=m0_;have HB:=nb_;clear m0_ nb_;have Z15:=Aside0.mk hb.size;have F14:=nF14_;clear nF14_;obtain ⟨Ao17,co17,eo17⟩:=Kd.S_slice F14.out;subst eo17;clear hb tok12 ho0;have hczgb1 : w11.cell? ⟨gb1,0,none⟩ = some (.slice A0_0 l0_0.length c0_0):=(blk_cell B2.out 0).trans rfl;have hfzgb1:=blk_frozen B2.out 0) | (go_at_call 28;have u_:=tok22;clear u_;((with_reducible refine (spec_EntriesOf.calls k _ _ t10 a1 t19 t20 _ (Kd.S_reads' F14.out).2.2 (S_cap F14.out) A18.out).mono ?_));(try clear hczgb1 hfzgb1);rintro e w21 ⟨v23,rfl,ho0,hb⟩;have nF24_:=Aside0.mk (OwnR.make HB.out hb ho0);have n0_:=Aside0.mk (OwnS.below F14.out hb);have m0_:=Aside0.mk (blk_below B2.out hb);have nb_:=Aside0.mk (below_step HB.out hb);clear F14 B2 HB;have F14:=n0_;have B2:=m0_;have HB:=nb_;clear n0_ m0_ nb_;have Z25:=Aside0.mk hb.size;have F24:=nF24_;clear nF24_;obtain ⟨Ao27,co27,eo27⟩:=Kd.R_slice F24.out;subst eo27;clear hb tok22 ho0;have hczgb1 : w21.cell? ⟨gb1,0,none⟩ = some (.slice A0_0 l0_0.length c0_0):=(blk_cell B2.out 0).trans rfl;have hfzgb1:=blk_frozen B2.out 0) | (go_at_call 12;have u_:=tok31;clear u_;((with_reducible refine (laws_toGraph.calls k _ _ l0_0 t29 _ (Kd.C_below HR0_0.out HB.out) HC0_0.out A28.out).mono ?_));(try clear hczgb1 hfzgb1);rintro e w30 ⟨v32,rfl,ho0,hb⟩;have nF33_:=Aside0.mk (OwnS.make HB.out hb ho0);have n0_:=Aside0.mk (OwnS.below F14.out hb);have n1_:=Aside0.mk (OwnR.below F24.out hb);have m0_:=Aside0.mk (blk_below B2.out hb);have nb_:=Aside0.mk (below_step HB.out hb);clear F14 F24 B2 HB;have F14:=n0_;have F24:=n1_;have B2:=m0_;have HB:=nb_;clear n0_ n1_ m0_ nb_;have Z34:=Aside0.mk hb.size;have F33:=nF33_;clear nF33_;obtain ⟨Ao36,co36,eo36⟩:=Kd.S_slice F33.out;subst eo36;clear hb tok31 ho0;have hczgb1 : w30.cell? ⟨gb1,0,none⟩ = some (.slice A0_0 l0_0.length c0_0):=(blk_cell B2.out 0).trans rfl;have hfzgb1:=blk_frozen B2.out 0) | ((with_reducible refine gate_dst (N:=8) rfl ?_);refine box_event ?hg (N:=8) ?hd (cs:=#[.slice none 0 0]) (t:=28) ?hr ?_;(case hd => rfl);(case hg => rfl);(case hr => first | (go_simp;done) | (go_simp;rfl));intro gb37 hg w39 hbox hb;(try clear hczgb1 hfzgb1);have n0_:=Aside0.mk (OwnS.below F14.out hb);have n1_:=Aside0.mk (OwnR.below F24.out hb);have n2_:=Aside0.mk (OwnS.below F33.out hb);have m0_:=Aside0.mk (blk_below B2.out hb);have nb_:=Aside0.mk (below_step HB.out hb);clear F14 F24 F33 B2 HB;have F14:=n0_;have F24:=n1_;have F33:=n2_;have B2:=m0_;have HB:=nb_;clear n0_ n1_ n2_ m0_ nb_;have B38:=Aside0.mk hbox;have B38n:=Aside0.mk hg;have B38z:=Aside0.mk hb.size;have B38y:=Aside0.mk (blk_lt B38.out);clear hb hbox hg;have hczgb1 : w39.cell? ⟨gb1,0,none⟩ = some (.slice A0_0 l0_0.length c0_0):=(blk_cell B2.out 0).trans rfl;have hfzgb1:=blk_frozen B2.out 0;have hczgb37 : w39.cell? ⟨gb37,0,none⟩ = some (.slice none 0 0):=(blk_cell B38.out 0).trans rfl;have hfzgb37:=blk_frozen B38.out 0) | ((with_reducible refine gate_store (t:=28) (p:=8) rfl ?_);refine store_event (t:=28) (p:=8) (v:=?vow40_) (w1:=(w39.setCell ⟨gb37,0,none⟩ (.slice Ao36 t29.length co36))) ?hg ?ho ?hn ?hr ?_;(case ho => rfl);(case hg => rfl);(case hn => rfl);(case hr => first | (go_simp;done) | (go_simp;rfl));intro w40 hw;(try clear hczgb1 hfzgb1);(try clear hczgb37 hfzgb37);have n0_:=Aside0.mk (OwnS.stored hw F14.out (by have:=B2z.out;have:=B2y.out;have:=B2n.out;have:=Z8.out;have:=Z15.out;have:=Z25.out;have:=Z34.out;have:=B38z.out;have:=B38y.out;have:=B38n.out;omega));have n1_:=Aside0.mk (OwnR.stored hw F24.out (by have:=B2z.out;have:=B2y.out;have:=B2n.out;have:=Z8.out;have:=Z15.out;have:=Z25.out;have:=Z34.out;have:=B38z.out;have:=B38y.out;have:=B38n.out;omega));have n2_:=Aside0.mk (OwnS.stored hw F33.out (by have:=B2z.out;have:=B2y.out;have:=B2n.out;have:=Z8.out;have:=Z15.out;have:=Z25.out;have:=Z34.out;have:=B38z.out;have:=B38y.out;have:=B38n.out;omega));have m0_ : Aside0 (w40.heap[gb1]? = some (.cells #[.slice A0_0 l0_0.length c0_0] 24 (0,0))):=Aside0.mk (blk_stored hw B2.out (by have:=B2z.out;have:=B2y.out;have:=B2n.out;have:=Z8.out;have:=Z15.out;have:=Z25.out;have:=Z34.out;have:=B38z.out;have:=B38y.out;have:=B38n.out;omega));have m1_ : Aside0 (w40.heap[gb37]? = some (.cells #[.slice Ao36 t29.length co36] 28 (0,0))):=Aside0.mk (blk_stored0 hw B38.out rfl);have nb_:=Aside0.mk (below_stored hw HB.out (by have:=B2z.out;have:=B2y.out;have:=B2n.out;have:=Z8.out;have:=Z15.out;have:=Z25.out;have:=Z34.out;have:=B38z.out;have:=B38y.out;have:=B38n.out;omega));have Z41:=Aside0.mk (size_stored hw);clear F14 F24 F33 B2 B38 HB;have F14:=n0_;have F24:=n1_;have F33:=n2_;have B2:=m0_;have B38:=m1_;have HB:=nb_;clear n0_ n1_ n2_ m0_ m1_ nb_ hw;have hczgb1 : w40.cell? ⟨gb1,0,none⟩ = some (.slice A0_0 l0_0.length c0_0):=(blk_cell B2.out 0).trans rfl;have hfzgb1:=blk_frozen B2.out 0;have hczgb37 : w40.cell? ⟨gb37,0,none⟩ = some (.slice Ao36 t29.length co36):=(blk_cell B38.out 0).trans rfl;have hfzgb37:=blk_frozen B38.out 0) | (go_at_call 29;have u_:=tok46;clear u_;((with_reducible refine (impl_EntriesOf.calls k _ _ t29 a1 t43 t44 _ (Kd.S_reads' F33.out).2.2 (S_cap F33.out) A42.out).mono ?_));(try clear hczgb1 hfzgb1);(try clear hczgb37 hfzgb37);rintro e w45 ⟨v47,rfl,ho0,hb⟩;have nF48_:=Aside0.mk (OwnR.make HB.out hb ho0);have n0_:=Aside0.mk (OwnS.below F14.out hb);have n1_:=Aside0.mk (OwnR.below F24.out hb);have n2_:=Aside0.mk (OwnS.below F33.out hb);have m0_:=Aside0.mk (blk_below B2.out hb);have m1_:=Aside0.mk (blk_below B38.out hb);have nb_:=Aside0.mk (below_step HB.out hb);clear F14 F24 F33 B2 B38 HB;have F14:=n0_;have F24:=n1_;have F33:=n2_;have B2:=m0_;have B38:=m1_;have HB:=nb_;clear n0_ n1_ n2_ m0_ m1_ nb_;have Z49:=Aside0.mk hb.size;have F48:=nF48_;clear nF48_;obtain ⟨Ao51,co51,eo51⟩:=Kd.R_slice F48.out;subst eo51;clear hb tok46 ho0;have hczgb1 : w45.cell? ⟨gb1,0,none⟩ = some (.slice A0_0 l0_0.length c0_0):=(blk_cell B2.out 0).trans rfl;have hfzgb1:=blk_frozen B2.out 0;have hczgb37 : w45.cell? ⟨gb37,0,none⟩ = some (.slice Ao36 t29.length co36):=(blk_cell B38.out 0).trans rfl;have hfzgb37:=blk_frozen B38.out 0) | (go_at_call 30;have u_:=tok55;clear u_;((with_reducible refine (laws_eqIntS.calls k _ _ t43 _ _ t19 true _ (Kd.R_reads' F48.out).2.2 (R_cap F48.out) (Kd.R_reads' F24.out).2.2 (R_cap F24.out) A52.out).mono ?_));(try clear hczgb1 hfzgb1);(try clear hczgb37 hfzgb37);rintro e w54 ⟨rfl,hd⟩;have hb:=hd.below;clear hd;have n0_:=Aside0.mk (OwnS.below F14.out hb);have n1_:=Aside0.mk (OwnR.below F24.out hb);have n2_:=Aside0.mk (OwnS.below F33.out hb);have n3_:=Aside0.mk (OwnR.below F48.out hb);have m0_:=Aside0.mk (blk_below B2.out hb);have m1_:=Aside0.mk (blk_below B38.out hb);have nb_:=Aside0.mk (below_step HB.out hb);clear F14 F24 F33 F48 B2 B38 HB;have F14:=n0_;have F24:=n1_;have F33:=n2_;have F48:=n3_;have B2:=m0_;have B38:=m1_;have HB:=nb_;clear n0_ n1_ n2_ n3_ m0_ m1_ nb_;have Z56:=Aside0.mk hb.size;clear hb tok55;have hczgb1 : w54.cell? ⟨gb1,0,none⟩ = some (.slice A0_0 l0_0.length c0_0):=(blk_cell B2.out 0).trans rfl;have hfzgb1:=blk_frozen B2.out 0;have hczgb37 : w54.cell? ⟨gb37,0,none⟩ = some (.slice Ao36 t29.length co36):=(blk_cell B38.out 0).trans rfl;have hfzgb37:=blk_frozen B38.out 0))
     go_cut [49] (fun v49 wc => v49 = .bool false ∧ Aside0 (OwnS (Kd.slice 3 (Kd.int .i64)) 43 w wc w6.heap.size w11.heap.size (.slice Ao17 t10.length co17) t10) ∧ Aside0 (OwnR (Kd.int .i64) 3 w wc w11.heap.size w21.heap.size (.slice Ao27 t19.length co27) t19) ∧ Aside0 (OwnS (Kd.slice 3 (Kd.int .i64)) 43 w wc w21.heap.size w30.heap.size (.slice Ao36 t29.length co36) t29) ∧ Aside0 (OwnR (Kd.int .i64) 3 w wc w40.heap.size w45.heap.size (.slice Ao51 t43.length co51) t43) ∧ Aside0 (wc.heap[gb1]? = some (.cells #[.slice A0_0 l0_0.length c0_0] 24 (0,0))) ∧ Aside0 (wc.heap[gb37]? = some (.cells #[.slice Ao36 t29.length co36] 28 (0,0))) ∧ Aside0 (Below w.heap.size w wc) ∧ Aside0 (w54.heap.size ≤ wc.heap.size))
     case first =>
      have F14:=Aside0.mk (OwnS.drew F14.out)
      have F24:=Aside0.mk (OwnR.drew F24.out)
      have F33:=Aside0.mk (OwnS.drew F33.out)
      have F48:=Aside0.mk (OwnR.drew F48.out)
      have HB:=Aside0.mk (below_drew HB.out)
      have B2:=Aside0.mk (blk_drew B2.out)
      have B38:=Aside0.mk (blk_drew B38.out)
      have Z71 : Aside0 (w54.heap.size ≤ w54.drew.heap.size):=⟨Nat.le_refl _⟩
      go_region_with (first | (go_at_call 12;have u_:=tok60;clear u_;((with_reducible refine (laws_toGraph.calls k _ _ l0_0 t58 _ (Kd.C_below HR0_0.out HB.out) HC0_0.out A57.out).mono ?_));(try clear hczgb1 hfzgb1);(try clear hczgb37 hfzgb37);rintro e w59 ⟨v61,rfl,ho0,hb⟩;have nF62_:=Aside0.mk (OwnS.make HB.out hb ho0);have n0_:=Aside0.mk (OwnS.below F14.out hb);have n1_:=Aside0.mk (OwnR.below F24.out hb);have n2_:=Aside0.mk (OwnS.below F33.out hb);have n3_:=Aside0.mk (OwnR.below F48.out hb);have m0_:=Aside0.mk (blk_below B2.out hb);have m1_:=Aside0.mk (blk_below B38.out hb);have nb_:=Aside0.mk (below_step HB.out hb);clear F14 F24 F33 F48 B2 B38 HB;have F14:=n0_;have F24:=n1_;have F33:=n2_;have F48:=n3_;have B2:=m0_;have B38:=m1_;have HB:=nb_;clear n0_ n1_ n2_ n3_ m0_ m1_ nb_;have Z63:=Aside0.mk hb.size;have F62:=nF62_;clear nF62_;obtain ⟨Ao65,co65,eo65⟩:=Kd.S_slice F62.out;subst eo65;clear hb tok60 ho0;have hczgb1 : w59.cell? ⟨gb1,0,none⟩ = some (.slice A0_0 l0_0.length c0_0):=(blk_cell B2.out 0).trans rfl;have hfzgb1:=blk_frozen B2.out 0;have hczgb37 : w59.cell? ⟨gb37,0,none⟩ = some (.slice Ao36 t29.length co36):=(blk_cell B38.out 0).trans rfl;have hfzgb37:=blk_frozen B38.out 0) | (go_at_call 14;have u_:=tok69;clear u_;((with_reducible refine (laws_eqGraph.calls k _ _ t29 _ _ t58 true _ (Kd.S_reads' F33.out).2.2 (S_cap F33.out) (Kd.S_reads' F62.out).2.2 (S_cap F62.out) A66.out).mono ?_));(try clear hczgb1 hfzgb1);(try clear hczgb37 hfzgb37);rintro e w68 ⟨rfl,hb⟩;have n0_:=Aside0.mk (OwnS.below F14.out hb);have n1_:=Aside0.mk (OwnR.below F24.out hb);have n2_:=Aside0.mk (OwnS.below F33.out hb);have n3_:=Aside0.mk (OwnR.below F48.out hb);have n4_:=Aside0.mk (OwnS.below F62.out hb);have m0_:=Aside0.mk (blk_below B2.out hb);have m1_:=Aside0.mk (blk_below B38.out hb);have nb_:=Aside0.mk (below_step HB.out hb);clear F14 F24 F33 F48 F62 B2 B38 HB;have F14:=n0_;have F24:=n1_;have F33:=n2_;have F48:=n3_;have F62:=n4_;have B2:=m0_;have B38:=m1_;have HB:=nb_;clear n0_ n1_ n2_ n3_ n4_ m0_ m1_ nb_;have Z70:=Aside0.mk hb.size;clear hb tok69;have hczgb1 : w68.cell? ⟨gb1,0,none⟩ = some (.slice A0_0 l0_0.length c0_0):=(blk_cell B2.out 0).trans rfl;have hfzgb1:=blk_frozen B2.out 0;have hczgb37 : w68.cell? ⟨gb37,0,none⟩ = some (.slice Ao36 t29.length co36):=(blk_cell B38.out 0).trans rfl;have hfzgb37:=blk_frozen B38.out 0))
      all_goals go_wp2
      all_goals go_meet
      all_goals exact ⟨rfl,F14,F24,F33,F48,B2,B38,HB,⟨by have:=B2z.out;have:=B2y.out;have:=B2n.out;have:=Z8.out;have:=Z15.out;have:=Z25.out;have:=Z34.out;have:=B38z.out;have:=B38y.out;have:=B38n.out;have:=Z41.out;have:=Z49.out;have:=Z56.out;have:=Z63.out;have:=Z70.out;have:=Z71.out;omega⟩⟩
     case rest =>
      clear F14
      clear F24
      clear F33
      clear F48
      clear HB B2 B38
      obtain ⟨rfl,F14,F24,F33,F48,B2,B38,HB,Z71⟩:=hcut
      (try clear hczgb1 hfzgb1)
      (try clear hczgb37 hfzgb37)
      have hczgb1 : wc.cell? ⟨gb1,0,none⟩ = some (.slice A0_0 l0_0.length c0_0):=(blk_cell B2.out 0).trans rfl
      have hfzgb1:=blk_frozen B2.out 0
      have hczgb37 : wc.cell? ⟨gb37,0,none⟩ = some (.slice Ao36 t29.length co36):=(blk_cell B38.out 0).trans rfl
      have hfzgb37:=blk_frozen B38.out 0
      go_wp2_with (first | (go_at_call 20;have u_:=tok76;clear u_;((with_reducible refine (laws_markGraph.calls k (fun k_ => w21.heap.size ≤ k_ ∧ k_ < w30.heap.size) (.slice Ao36 t29.length co36) t29 1 t73 t74 w _ HB.out F33.out A72.out).mono ?_));(try clear hczgb1 hfzgb1);(try clear hczgb37 hfzgb37);rintro e w75 ⟨rfl,hy,hb,hkp⟩;have Z77:=Aside0.mk hkp.1;have ny_ : Aside0 (OwnS (Kd.slice 3 (Kd.int .i64)) 43 w w75 w21.heap.size w30.heap.size (.slice Ao36 t29.length co36) t74):=⟨hy⟩;have n0_:=Aside0.mk (OwnS.kept F14.out hkp (by have:=B2z.out;have:=B2y.out;have:=B2n.out;have:=Z8.out;have:=Z15.out;have:=Z25.out;have:=Z34.out;have:=B38z.out;have:=B38y.out;have:=B38n.out;have:=Z41.out;have:=Z49.out;have:=Z56.out;have:=Z71.out;omega));have n1_:=Aside0.mk (OwnR.kept F24.out hkp (by have:=B2z.out;have:=B2y.out;have:=B2n.out;have:=Z8.out;have:=Z15.out;have:=Z25.out;have:=Z34.out;have:=B38z.out;have:=B38y.out;have:=B38n.out;have:=Z41.out;have:=Z49.out;have:=Z56.out;have:=Z71.out;omega));have n3_:=Aside0.mk (OwnR.kept F48.out hkp (by have:=B2z.out;have:=B2y.out;have:=B2n.out;have:=Z8.out;have:=Z15.out;have:=Z25.out;have:=Z34.out;have:=B38z.out;have:=B38y.out;have:=B38n.out;have:=Z41.out;have:=Z49.out;have:=Z56.out;have:=Z71.out;omega));have m0_:=Aside0.mk (blk_kept B2.out hkp (by have:=B2n.out;have:=B2z.out;have:=B2y.out;have:=B2n.out;have:=Z8.out;have:=Z15.out;have:=Z25.out;have:=Z34.out;have:=B38z.out;have:=B38y.out;have:=B38n.out;have:=Z41.out;have:=Z49.out;have:=Z56.out;have:=Z71.out;intro h_;omega));have m1_:=Aside0.mk (blk_kept B38.out hkp (by have:=B38n.out;have:=B2z.out;have:=B2y.out;have:=B2n.out;have:=Z8.out;have:=Z15.out;have:=Z25.out;have:=Z34.out;have:=B38z.out;have:=B38y.out;have:=B38n.out;have:=Z41.out;have:=Z49.out;have:=Z56.out;have:=Z71.out;intro h_;omega));have nb_:=Aside0.mk (hb);clear F14 F24 F48 B2 B38 HB;have F14:=n0_;have F24:=n1_;have F48:=n3_;have B2:=m0_;have B38:=m1_;have HB:=nb_;clear n0_ n1_ n3_ m0_ m1_ nb_;have F78:=ny_;clear ny_ hy hb hkp F33;clear tok76;have hczgb1 : w75.cell? ⟨gb1,0,none⟩ = some (.slice A0_0 l0_0.length c0_0):=(blk_cell B2.out 0).trans rfl;have hfzgb1:=blk_frozen B2.out 0;have hczgb37 : w75.cell? ⟨gb37,0,none⟩ = some (.slice Ao36 t29.length co36):=(blk_cell B38.out 0).trans rfl;have hfzgb37:=blk_frozen B38.out 0) | (go_at_call 30;have u_:=tok82;clear u_;((with_reducible refine (laws_eqIntS.calls k _ _ t43 _ _ t19 true _ (Kd.R_reads' F48.out).2.2 (R_cap F48.out) (Kd.R_reads' F24.out).2.2 (R_cap F24.out) A79.out).mono ?_));(try clear hczgb1 hfzgb1);(try clear hczgb37 hfzgb37);rintro e w81 ⟨rfl,hd⟩;have hb:=hd.below;clear hd;have n0_:=Aside0.mk (OwnS.below F14.out hb);have n1_:=Aside0.mk (OwnR.below F24.out hb);have n2_:=Aside0.mk (OwnS.below F78.out hb);have n3_:=Aside0.mk (OwnR.below F48.out hb);have m0_:=Aside0.mk (blk_below B2.out hb);have m1_:=Aside0.mk (blk_below B38.out hb);have nb_:=Aside0.mk (below_step HB.out hb);clear F14 F24 F78 F48 B2 B38 HB;have F14:=n0_;have F24:=n1_;have F78:=n2_;have F48:=n3_;have B2:=m0_;have B38:=m1_;have HB:=nb_;clear n0_ n1_ n2_ n3_ m0_ m1_ nb_;have Z83:=Aside0.mk hb.size;clear hb tok82;have hczgb1 : w81.cell? ⟨gb1,0,none⟩ = some (.slice A0_0 l0_0.length c0_0):=(blk_cell B2.out 0).trans rfl;have hfzgb1:=blk_frozen B2.out 0;have hczgb37 : w81.cell? ⟨gb37,0,none⟩ = some (.slice Ao36 t29.length co36):=(blk_cell B38.out 0).trans rfl;have hfzgb37:=blk_frozen B38.out 0) | (go_at_call 31;have u_:=tok88;clear u_;((with_reducible refine (laws_markIntS.calls k (fun k_ => w40.heap.size ≤ k_ ∧ k_ < w45.heap.size) (.slice Ao51 t43.length co51) t43 1 t85 t86 w _ HB.out F48.out A84.out).mono ?_));(try clear hczgb1 hfzgb1);(try clear hczgb37 hfzgb37);rintro e w87 ⟨rfl,hy,hb,hkp⟩;have Z89:=Aside0.mk hkp.1;have ny_ : Aside0 (OwnR (Kd.int .i64) 3 w w87 w40.heap.size w45.heap.size (.slice Ao51 t43.length co51) t86):=⟨Kd.R_reok rfl hy (fun k_ e_ => F48.out.1 k_ e_)⟩;have n0_:=Aside0.mk (OwnS.kept F14.out hkp (by have:=B2z.out;have:=B2y.out;have:=B2n.out;have:=Z8.out;have:=Z15.out;have:=Z25.out;have:=Z34.out;have:=B38z.out;have:=B38y.out;have:=B38n.out;have:=Z41.out;have:=Z49.out;have:=Z56.out;have:=Z71.out;have:=Z77.out;have:=Z83.out;omega));have n1_:=Aside0.mk (OwnR.kept F24.out hkp (by have:=B2z.out;have:=B2y.out;have:=B2n.out;have:=Z8.out;have:=Z15.out;have:=Z25.out;have:=Z34.out;have:=B38z.out;have:=B38y.out;have:=B38n.out;have:=Z41.out;have:=Z49.out;have:=Z56.out;have:=Z71.out;have:=Z77.out;have:=Z83.out;omega));have n2_:=Aside0.mk (OwnS.kept F78.out hkp (by have:=B2z.out;have:=B2y.out;have:=B2n.out;have:=Z8.out;have:=Z15.out;have:=Z25.out;have:=Z34.out;have:=B38z.out;have:=B38y.out;have:=B38n.out;have:=Z41.out;have:=Z49.out;have:=Z56.out;have:=Z71.out;have:=Z77.out;have:=Z83.out;omega));have m0_:=Aside0.mk (blk_kept B2.out hkp (by have:=B2n.out;have:=B2z.out;have:=B2y.out;have:=B2n.out;have:=Z8.out;have:=Z15.out;have:=Z25.out;have:=Z34.out;have:=B38z.out;have:=B38y.out;have:=B38n.out;have:=Z41.out;have:=Z49.out;have:=Z56.out;have:=Z71.out;have:=Z77.out;have:=Z83.out;intro h_;omega));have m1_:=Aside0.mk (blk_kept B38.out hkp (by have:=B38n.out;have:=B2z.out;have:=B2y.out;have:=B2n.out;have:=Z8.out;have:=Z15.out;have:=Z25.out;have:=Z34.out;have:=B38z.out;have:=B38y.out;have:=B38n.out;have:=Z41.out;have:=Z49.out;have:=Z56.out;have:=Z71.out;have:=Z77.out;have:=Z83.out;intro h_;omega));have nb_:=Aside0.mk (hb);clear F14 F24 F78 B2 B38 HB;have F14:=n0_;have F24:=n1_;have F78:=n2_;have B2:=m0_;have B38:=m1_;have HB:=nb_;clear n0_ n1_ n2_ m0_ m1_ nb_;have F90:=ny_;clear ny_ hy hb hkp F48;clear tok88;have hczgb1 : w87.cell? ⟨gb1,0,none⟩ = some (.slice A0_0 l0_0.length c0_0):=(blk_cell B2.out 0).trans rfl;have hfzgb1:=blk_frozen B2.out 0;have hczgb37 : w87.cell? ⟨gb37,0,none⟩ = some (.slice Ao36 t29.length co36):=(blk_cell B38.out 0).trans rfl;have hfzgb37:=blk_frozen B38.out 0) | (go_at_call 32;have u_:=tok94;clear u_;refine calls_of_args (args':=#[.slice Ao51 t86.length co51,.int .i64 1]) (by first | (rw [show t86.length = t43.length from (Kd.R_reads' F90.out).1.symm];done) | (rw [show t86.length = t43.length from (Kd.R_reads' F90.out).1.symm];rfl)) ?_;((with_reducible refine (laws_heldIntS.calls k _ _ t86 1 t92 _ (Kd.R_reads' F90.out).2.2 (R_cap F90.out) A91.out).mono ?_));(try clear hczgb1 hfzgb1);(try clear hczgb37 hfzgb37);rintro e w93 ⟨rfl,hd⟩;have hb:=hd.below;clear hd;have n0_:=Aside0.mk (OwnS.below F14.out hb);have n1_:=Aside0.mk (OwnR.below F24.out hb);have n2_:=Aside0.mk (OwnS.below F78.out hb);have n3_:=Aside0.mk (OwnR.below F90.out hb);have m0_:=Aside0.mk (blk_below B2.out hb);have m1_:=Aside0.mk (blk_below B38.out hb);have nb_:=Aside0.mk (below_step HB.out hb);clear F14 F24 F78 F90 B2 B38 HB;have F14:=n0_;have F24:=n1_;have F78:=n2_;have F90:=n3_;have B2:=m0_;have B38:=m1_;have HB:=nb_;clear n0_ n1_ n2_ n3_ m0_ m1_ nb_;have Z95:=Aside0.mk hb.size;clear hb tok94;have hczgb1 : w93.cell? ⟨gb1,0,none⟩ = some (.slice A0_0 l0_0.length c0_0):=(blk_cell B2.out 0).trans rfl;have hfzgb1:=blk_frozen B2.out 0;have hczgb37 : w93.cell? ⟨gb37,0,none⟩ = some (.slice Ao36 t29.length co36):=(blk_cell B38.out 0).trans rfl;have hfzgb37:=blk_frozen B38.out 0) | (go_at_call 12;have u_:=tok99;clear u_;((with_reducible refine (laws_toGraph.calls k _ _ l0_0 t97 _ (Kd.C_below HR0_0.out HB.out) HC0_0.out A96.out).mono ?_));(try clear hczgb1 hfzgb1);(try clear hczgb37 hfzgb37);rintro e w98 ⟨v100,rfl,ho0,hb⟩;have nF101_:=Aside0.mk (OwnS.make HB.out hb ho0);have n0_:=Aside0.mk (OwnS.below F14.out hb);have n1_:=Aside0.mk (OwnR.below F24.out hb);have n2_:=Aside0.mk (OwnS.below F78.out hb);have n3_:=Aside0.mk (OwnR.below F90.out hb);have m0_:=Aside0.mk (blk_below B2.out hb);have m1_:=Aside0.mk (blk_below B38.out hb);have nb_:=Aside0.mk (below_step HB.out hb);clear F14 F24 F78 F90 B2 B38 HB;have F14:=n0_;have F24:=n1_;have F78:=n2_;have F90:=n3_;have B2:=m0_;have B38:=m1_;have HB:=nb_;clear n0_ n1_ n2_ n3_ m0_ m1_ nb_;have Z102:=Aside0.mk hb.size;have F101:=nF101_;clear nF101_;obtain ⟨Ao104,co104,eo104⟩:=Kd.S_slice F101.out;subst eo104;clear hb tok99 ho0;have hczgb1 : w98.cell? ⟨gb1,0,none⟩ = some (.slice A0_0 l0_0.length c0_0):=(blk_cell B2.out 0).trans rfl;have hfzgb1:=blk_frozen B2.out 0;have hczgb37 : w98.cell? ⟨gb37,0,none⟩ = some (.slice Ao36 t29.length co36):=(blk_cell B38.out 0).trans rfl;have hfzgb37:=blk_frozen B38.out 0) | (go_at_call 29;have u_:=tok109;clear u_;((with_reducible refine (impl_EntriesOf.calls k _ _ t97 a1 t106 t107 _ (Kd.S_reads' F101.out).2.2 (S_cap F101.out) A105.out).mono ?_));(try clear hczgb1 hfzgb1);(try clear hczgb37 hfzgb37);rintro e w108 ⟨v110,rfl,ho0,hb⟩;have nF111_:=Aside0.mk (OwnR.make HB.out hb ho0);have n0_:=Aside0.mk (OwnS.below F14.out hb);have n1_:=Aside0.mk (OwnR.below F24.out hb);have n2_:=Aside0.mk (OwnS.below F78.out hb);have n3_:=Aside0.mk (OwnR.below F90.out hb);have n4_:=Aside0.mk (OwnS.below F101.out hb);have m0_:=Aside0.mk (blk_below B2.out hb);have m1_:=Aside0.mk (blk_below B38.out hb);have nb_:=Aside0.mk (below_step HB.out hb);clear F14 F24 F78 F90 F101 B2 B38 HB;have F14:=n0_;have F24:=n1_;have F78:=n2_;have F90:=n3_;have F101:=n4_;have B2:=m0_;have B38:=m1_;have HB:=nb_;clear n0_ n1_ n2_ n3_ n4_ m0_ m1_ nb_;have Z112:=Aside0.mk hb.size;have F111:=nF111_;clear nF111_;obtain ⟨Ao114,co114,eo114⟩:=Kd.R_slice F111.out;subst eo114;clear hb tok109 ho0;have hczgb1 : w108.cell? ⟨gb1,0,none⟩ = some (.slice A0_0 l0_0.length c0_0):=(blk_cell B2.out 0).trans rfl;have hfzgb1:=blk_frozen B2.out 0;have hczgb37 : w108.cell? ⟨gb37,0,none⟩ = some (.slice Ao36 t29.length co36):=(blk_cell B38.out 0).trans rfl;have hfzgb37:=blk_frozen B38.out 0) | (go_at_call 30;have u_:=tok118;clear u_;((with_reducible refine (laws_eqIntS.calls k _ _ t106 _ _ t19 true _ (Kd.R_reads' F111.out).2.2 (R_cap F111.out) (Kd.R_reads' F24.out).2.2 (R_cap F24.out) A115.out).mono ?_));(try clear hczgb1 hfzgb1);(try clear hczgb37 hfzgb37);rintro e w117 ⟨rfl,hd⟩;have hb:=hd.below;clear hd;have n0_:=Aside0.mk (OwnS.below F14.out hb);have n1_:=Aside0.mk (OwnR.below F24.out hb);have n2_:=Aside0.mk (OwnS.below F78.out hb);have n3_:=Aside0.mk (OwnR.below F90.out hb);have n4_:=Aside0.mk (OwnS.below F101.out hb);have n5_:=Aside0.mk (OwnR.below F111.out hb);have m0_:=Aside0.mk (blk_below B2.out hb);have m1_:=Aside0.mk (blk_below B38.out hb);have nb_:=Aside0.mk (below_step HB.out hb);clear F14 F24 F78 F90 F101 F111 B2 B38 HB;have F14:=n0_;have F24:=n1_;have F78:=n2_;have F90:=n3_;have F101:=n4_;have F111:=n5_;have B2:=m0_;have B38:=m1_;have HB:=nb_;clear n0_ n1_ n2_ n3_ n4_ n5_ m0_ m1_ nb_;have Z119:=Aside0.mk hb.size;clear hb tok118;have hczgb1 : w117.cell? ⟨gb1,0,none⟩ = some (.slice A0_0 l0_0.length c0_0):=(blk_cell B2.out 0).trans rfl;have hfzgb1:=blk_frozen B2.out 0;have hczgb37 : w117.cell? ⟨gb37,0,none⟩ = some (.slice Ao36 t29.length co36):=(blk_cell B38.out 0).trans rfl;have hfzgb37:=blk_frozen B38.out 0) | (go_at_call 32;have u_:=tok123;clear u_;refine calls_of_args (args':=#[.slice Ao51 t86.length co51,.int .i64 1]) (by first | (rw [show t86.length = t43.length from (Kd.R_reads' F90.out).1.symm];done) | (rw [show t86.length = t43.length from (Kd.R_reads' F90.out).1.symm];rfl)) ?_;((with_reducible refine (laws_heldIntS.calls k _ _ t86 1 t121 _ (Kd.R_reads' F90.out).2.2 (R_cap F90.out) A120.out).mono ?_));(try clear hczgb1 hfzgb1);(try clear hczgb37 hfzgb37);rintro e w122 ⟨rfl,hd⟩;have hb:=hd.below;clear hd;have n0_:=Aside0.mk (OwnS.below F14.out hb);have n1_:=Aside0.mk (OwnR.below F24.out hb);have n2_:=Aside0.mk (OwnS.below F78.out hb);have n3_:=Aside0.mk (OwnR.below F90.out hb);have n4_:=Aside0.mk (OwnS.below F101.out hb);have n5_:=Aside0.mk (OwnR.below F111.out hb);have m0_:=Aside0.mk (blk_below B2.out hb);have m1_:=Aside0.mk (blk_below B38.out hb);have nb_:=Aside0.mk (below_step HB.out hb);clear F14 F24 F78 F90 F101 F111 B2 B38 HB;have F14:=n0_;have F24:=n1_;have F78:=n2_;have F90:=n3_;have F101:=n4_;have F111:=n5_;have B2:=m0_;have B38:=m1_;have HB:=nb_;clear n0_ n1_ n2_ n3_ n4_ n5_ m0_ m1_ nb_;have Z124:=Aside0.mk hb.size;clear hb tok123;have hczgb1 : w122.cell? ⟨gb1,0,none⟩ = some (.slice A0_0 l0_0.length c0_0):=(blk_cell B2.out 0).trans rfl;have hfzgb1:=blk_frozen B2.out 0;have hczgb37 : w122.cell? ⟨gb37,0,none⟩ = some (.slice Ao36 t29.length co36):=(blk_cell B38.out 0).trans rfl;have hfzgb37:=blk_frozen B38.out 0))
      go_ret
      exact ⟨rfl,HB.out⟩

/-- THE ONE PURE STATEMENT of laws_FnExactEntriesOf: yours. -/
def laws_FnExactEntriesOf.Pure : Prop:=∀ (l0_0 : List (List Int)) (a1 : Int),l0_0.length ≤ maxLen → (∀ x ∈ l0_0,(fun xs => xs.length ≤ maxLen ∧ ∀ x ∈ xs,(fun x => (Lit.int .i64 x).wf = true) x) x) → (Lit.int .i64 a1).wf = true → ∃ k,laws_FnExactEntriesOf.f k l0_0 a1 = some true

end Go.Proofs.Ytbmnoenbhlfjaaa.Q
