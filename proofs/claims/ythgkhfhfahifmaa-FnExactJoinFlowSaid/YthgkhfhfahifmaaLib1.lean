/- Plain facts on wrapping, on bits and on numbers in seven bits; no program in sight. No conditions. -/
import Derived.Test.YthgkhfhfahifmaaWMore
import Derived.Test.YthgkhfhfahifmaaWNEv
import Derived.Laws.Bits128
import Derived.Laws.BitsAllLaws
import Derived.Laws.BytesArg
namespace Go.Proofs.Ythgkhfhfahifmaa.Lib
open Go.RowKit Go.Proofs.YthgkhfhfahifmaaW.PrintWords Go.Proofs.YthgkhfhfahifmaaW.PrintLast Go.Proofs.YthgkhfhfahifmaaW.PrintMore

theorem Ev.succ {α : Type} {g : Nat → Option α} {r : α} (h : Ev (fun k => g (k + 1)) r) : Ev g r:=by
 obtain ⟨K,hK⟩:=h
 refine ⟨K + 1,fun k hk => ?_⟩
 obtain ⟨m,rfl⟩ : ∃ m,k = m + 1:=⟨k - 1,by omega⟩
 exact hK m (by omega)
theorem Ev.ite_pos {α : Type} {c : Prop} [Decidable c] {f g : Nat → Option α} {r : α} (hc : c) (h : Ev f r) : Ev (fun k => if c then f k else g k) r:=by
 obtain ⟨K,hK⟩:=h
 exact ⟨K,fun k hk => (if_pos hc).trans (hK k hk)⟩
theorem Ev.ite_neg {α : Type} {c : Prop} [Decidable c] {f g : Nat → Option α} {r : α} (hc : ¬ c) (h : Ev g r) : Ev (fun k => if c then f k else g k) r:=by
 obtain ⟨K,hK⟩:=h
 exact ⟨K,fun k hk => (if_neg hc).trans (hK k hk)⟩
theorem Ev.some {α : Type} {r r' : α} (h : r = r') : Ev (fun _ => Option.some r) r':=by subst h;exact Ev.now r
theorem Ev.const {α : Type} {f : Option α} {r : α} (h : f = Option.some r) : Ev (fun _ => f) r:=by subst h;exact Ev.now r
theorem Ev.cast {α : Type} {g : Nat → Option α} {r r' : α} (h : Ev g r) (e : r = r') : Ev g r':=e ▸ h
/-- A loop over a list: by its rounds. -/
theorem Ev.range {α β ρ : Type} (l : List α) (F : Nat → β → Int → Option ρ) (G : β → List α → ρ) (Inv : β → List α → Prop)
  (hnil : ∀ b,Inv b [] → Ev (fun k => F k b (l.length : Int)) (G b []))
  (hcons : ∀ b p x q,l = p ++ x :: q → Inv b (x :: q) → (∀ b',Inv b' q → Ev (fun k => F k b' ((p.length : Int) + 1)) (G b' q)) → Ev (fun k => F k b (p.length : Int)) (G b (x :: q)))
  (b : β) (hb : Inv b l) : Ev (fun k => F k b 0) (G b l):=by
 have main : ∀ (q p : List α) (b : β),l = p ++ q → Inv b q → Ev (fun k => F k b (p.length : Int)) (G b q):=by
  intro q
  induction q with
  | nil => intro p b e hb;have:=hnil b hb;rw [e,List.append_nil] at this;exact this
  | cons x q ih =>
   intro p b e hb
   refine hcons b p x q e hb fun b' hb' => ?_
   have:=ih (p ++ [x]) b' (by rw [e];simp) hb'
   have e2 : ((p ++ [x]).length : Int) = (p.length : Int) + 1:=by simp
   rw [e2] at this
   exact this
 exact main l [] b rfl hb
theorem getD_mid {α : Type} (p q : List α) (y d : α) : (p ++ y :: q).getD (p.length : Int).toNat d = y:=by
 simp [List.getD_eq_getElem?_getD]
theorem beq_dec (a b : Int) : (a == b) = decide (a = b):=by rw [Bool.eq_iff_iff];simp
theorem wrap64_id {x : Int} (h0 : -9223372036854775808 ≤ x) (h1 : x ≤ 9223372036854775807) : wrap64 x = x:=by unfold wrap64;omega
theorem wf_i64 {x : Int} (h : (Lit.int .i64 x).wf = true) : -9223372036854775808 ≤ x ∧ x ≤ 9223372036854775807:=by
 have e1 : IntKind.i64.min = -9223372036854775808:=by decide
 have e2 : IntKind.i64.max = 9223372036854775807:=by decide
 simp only [Lit.wf,e1,e2,Bool.and_eq_true,decide_eq_true_eq] at h
 exact h
theorem nat_or128 : ∀ y,y < 256 → y ||| 128 = y % 128 + 128:=by decide +kernel
theorem u8_or128_any (x : Int) : bits .or .u8 (x % 256) 128 = x % 128 + 128:=by
 rw [u8_or _ _ (by omega) (by omega) (by omega) (by omega),show (128 : Int).toNat = 128 from rfl,nat_or128 _ (by omega)]
 omega
theorem u8_and127_any (x : Int) : bits .and .u8 (x % 256) 127 = x % 128:=by
 have h:=bits_mask .u8 8 (by decide) wraps_u8 7 (by decide) (x % 256) (by omega) (by omega)
 rw [show ((127 : Int)) = 2 ^ 7 - 1 from rfl,h]
 omega
theorem i64_or128 (y : Int) (h0 : 0 ≤ y) (h1 : y < 128) : bits .or .i64 y 128 = y + 128:=by
 have hc : bits .or .i64 y 128 = bits .or .i64 128 y:=by simp only [bits,BitVec.or_comm]
 have hk : ∀ n : Int,0 ≤ n → n < 2 ^ 63 → IntKind.i64.wrap n = n:=fun n h h' => by rw [IntKind.wrap_i64];omega
 rw [hc,bits_join .i64 63 (by decide) hk 7 128 y (by decide) (by decide) (by decide) h0 h1 (by omega)]
 omega

/-- The bytes of a number without a sign. -/
def lebU (n : Nat) : List Int:=if n < 128 then [(n : Int)] else ((n : Int) % 128 + 128) :: lebU (n / 128)
 termination_by n
 decreasing_by omega
theorem lebU_small {n : Nat} (h : n < 128) : lebU n = [(n : Int)]:=by rw [lebU,if_pos h]
theorem lebU_big {n : Nat} (h : ¬ n < 128) : lebU n = ((n : Int) % 128 + 128) :: lebU (n / 128):=by rw [lebU,if_neg h]
theorem lebU_pos (n : Nat) : 1 ≤ (lebU n).length:=by
 rw [lebU];split <;> simp
theorem lebU_len (j : Nat) : ∀ n : Nat,n < 128 ^ (j + 1) → (lebU n).length ≤ j + 1:=by
 induction j with
 | zero => intro n h;rw [lebU_small (by simpa using h)];simp
 | succ j ih =>
  intro n h
  by_cases hn : n < 128
  ·rw [lebU_small hn];simp
  ·rw [lebU_big hn]
   have:=ih (n / 128) (by rw [Nat.div_lt_iff_lt_mul (by decide)];rw [Nat.pow_succ] at h;exact h)
   simp only [List.length_cons];omega
/-- The bytes of a number with a sign. -/
def lebS (n : Int) : List Int:=if -64 ≤ n ∧ n ≤ 63 then [n % 128] else (n % 128 + 128) :: lebS (n / 128)
 termination_by n.natAbs
 decreasing_by omega
theorem lebS_small {n : Int} (h : -64 ≤ n ∧ n ≤ 63) : lebS n = [n % 128]:=by rw [lebS,if_pos h]
theorem lebS_big {n : Int} (h : ¬ (-64 ≤ n ∧ n ≤ 63)) : lebS n = (n % 128 + 128) :: lebS (n / 128):=by rw [lebS,if_neg h]
theorem lebS_len (j : Nat) : ∀ n : Int,-(64 * 128 ^ j) ≤ n → n < 64 * 128 ^ j → (lebS n).length ≤ j + 1:=by
 induction j with
 | zero => intro n h h';rw [lebS_small (by omega)];simp
 | succ j ih =>
  intro n h h'
  by_cases hn : -64 ≤ n ∧ n ≤ 63
  ·rw [lebS_small hn];simp
  ·rw [lebS_big hn]
   have hp : (64 * 128 ^ (j + 1) : Int) = 128 * (64 * 128 ^ j):=by rw [Int.pow_succ];ac_rfl
   rw [hp] at h h'
   generalize (64 * 128 ^ j : Int) = p at h h' ih
   have:=ih (n / 128) (by omega) (by omega)
   simp only [List.length_cons];omega

theorem strOfNums_append (a b : List Int) : strOfNums (a ++ b) = strOfNums a ++ strOfNums b:=by
 unfold strOfNums
 rw [List.map_append]
 apply ByteArray.ext
 simp
theorem strOfNums_nil : strOfNums [] = (⟨#[]⟩ : ByteArray):=rfl
theorem nil_append_str (s : ByteArray) : (⟨#[]⟩ : ByteArray) ++ s = s:=by
 apply ByteArray.ext
 simp
theorem append_str_assoc (a b c : ByteArray) : (a ++ b) ++ c = a ++ (b ++ c):=by
 apply ByteArray.ext
 simp [Array.append_assoc]
theorem str_append_size (a b : ByteArray) : (a ++ b).size = a.size + b.size:=by
 simp
/-- A number's bytes at a place, at most so many: the number, and how many they are. -/
def tk (s : ByteArray) : Nat → Int → Option (Int × Nat)
 | 0,_ => none
 | r + 1,at0 => if at0 < (s.size : Int) then (if bt s at0 < 128 then some (bt s at0,1) else (tk s r (at0 + 1)).map fun p => (bt s at0 % 128 + 128 * p.1,p.2 + 1)) else none
theorem tk_some {s : ByteArray} (r : Nat) : ∀ {at0 v : Int} {m : Nat},tk s r at0 = some (v,m) → 0 ≤ v ∧ v < 128 ^ m ∧ 1 ≤ m ∧ m ≤ r ∧ at0 + m ≤ s.size:=by
 induction r with
 | zero => intro at0 v m h;simp [tk] at h
 | succ r ih =>
  intro at0 v m h
  simp only [tk] at h
  by_cases h1 : at0 < (s.size : Int)
  ·rw [if_pos h1] at h
   have hb:=bt_range s at0
   by_cases h2 : bt s at0 < 128
   ·rw [if_pos h2] at h
    injection h with h;injection h with h3 h4;subst h3;subst h4
    refine ⟨hb.1,by simpa using h2,by omega,by omega,by omega⟩
   ·rw [if_neg h2] at h
    cases ht : tk s r (at0 + 1) with
    | none => rw [ht] at h;simp at h
    | some p =>
     obtain ⟨v',m'⟩:=p
     rw [ht] at h
     simp only [Option.map_some,Option.some.injEq,Prod.mk.injEq] at h
     obtain ⟨rfl,rfl⟩:=h
     obtain ⟨q0,q1,q2,q3,q4⟩:=ih ht
     have e : (128 : Int) ^ (m' + 1) = 128 * 128 ^ m':=by rw [Int.pow_succ];ac_rfl
     refine ⟨by omega,by rw [e];omega,by omega,by omega,by omega⟩
  ·rw [if_neg h1] at h;simp at h
theorem pow128 (i : Nat) : (2 : Int) ^ (7 * i) = 128 ^ i:=by rw [Int.pow_mul];rfl
theorem shl128 (i : Nat) (hi : i ≤ 4) (b : Int) (h0 : 0 ≤ b) (h1 : b < 128) : shl .i64 b (7 * (i : Int)) = b * 128 ^ i:=by
 have e : (7 * (i : Int)).toNat = 7 * i:=by omega
 have e2 : min (7 * i) IntKind.i64.bits = 7 * i:=Nat.min_eq_left (by show 7 * i ≤ 64;omega)
 unfold shl
 rw [e,e2,pow128,IntKind.wrap_i64]
 have hp : (128 : Int) ^ i ≤ 268435456 ∧ (1 : Int) ≤ 128 ^ i:=by
  match i,hi with
  | 0,_ => decide
  | 1,_ => decide
  | 2,_ => decide
  | 3,_ => decide
  | 4,_ => decide
 have h2 : 0 ≤ b * 128 ^ i:=Int.mul_nonneg h0 (by omega)
 have h3 : b * 128 ^ i ≤ 127 * 268435456:=Int.mul_le_mul (by omega) hp.1 (by omega) (by omega)
 omega
theorem or_shl (i : Nat) (hi : i ≤ 4) (n b : Int) (hn : 0 ≤ n) (hn' : n < 128 ^ i) (h0 : 0 ≤ b) (h1 : b < 128) : bits .or .i64 n (shl .i64 b (7 * (i : Int))) = n + 128 ^ i * b:=by
 rw [shl128 i hi b h0 h1]
 have hk : ∀ n : Int,0 ≤ n → n < 2 ^ 63 → IntKind.i64.wrap n = n:=fun n h h' => by rw [IntKind.wrap_i64];omega
 have hp : (128 : Int) ^ i ≤ 268435456 ∧ (1 : Int) ≤ 128 ^ i:=by
  match i,hi with
  | 0,_ => decide
  | 1,_ => decide
  | 2,_ => decide
  | 3,_ => decide
  | 4,_ => decide
 have h2 : 0 ≤ b * 128 ^ i:=Int.mul_nonneg h0 (by omega)
 have h3 : b * 128 ^ i ≤ 127 * 268435456:=Int.mul_le_mul (by omega) hp.1 (by omega) (by omega)
 have hc : bits .or .i64 n (b * 128 ^ i) = bits .or .i64 (b * 128 ^ i) n:=by simp only [bits,BitVec.or_comm]
 rw [hc,bits_join .i64 63 (by decide) hk (7 * i) _ n h2 (by rw [pow128];exact Int.mul_emod_left _ _) (by omega) hn (by rw [pow128];exact hn') (by omega)]
 rw [Int.mul_comm];omega
/-- What is read of a number without a sign. -/
def tuR (s : ByteArray) (at0 : Int) : Int × Int × Bool :=
 match tk s 5 at0 with
 | none => (0,0,false)
 | some (v,m) => if v ≤ 4294967295 then (v,at0 + m,true) else (0,0,false)
theorem tuR_none {s : ByteArray} {at0 : Int} (h : tk s 5 at0 = none) : tuR s at0 = (0,0,false):=by unfold tuR;rw [h]
theorem tuR_some {s : ByteArray} {at0 v : Int} {m : Nat} (h : tk s 5 at0 = some (v,m)) : tuR s at0 = if v ≤ 4294967295 then (v,at0 + m,true) else (0,0,false):=by unfold tuR;rw [h]
theorem tk_out {s : ByteArray} {at0 : Int} (r : Nat) (h : ¬ at0 < (s.size : Int)) : tk s r at0 = none:=by
 cases r with
 | zero => rfl
 | succ r => simp only [tk];rw [if_neg h]
/-- TakeU32. -/
def takeU32 (s : ByteArray) (at0 : Int) : Int × Int × Bool:=if s.size ≤ 1000 ∧ 0 ≤ at0 then tuR s at0 else (0,0,false)
/-- What is read of a number with a sign. -/
def tsR (s : ByteArray) (at0 : Int) : Int × Int × Bool :=
 match tk s 5 at0 with
 | none => (0,0,false)
 | some (v,m) =>
  let w:=if v / 2 ^ (7 * m - 1) % 2 = 1 then v - 2 ^ (7 * m) else v
  if -2147483648 ≤ w ∧ w ≤ 2147483647 then (w,at0 + m,true) else (0,0,false)
theorem tsR_none {s : ByteArray} {at0 : Int} (h : tk s 5 at0 = none) : tsR s at0 = (0,0,false):=by unfold tsR;rw [h]
theorem tsR_neg {s : ByteArray} {at0 v : Int} {m : Nat} (h : tk s 5 at0 = some (v,m)) (hb : v / 2 ^ (7 * m - 1) % 2 = 1) : tsR s at0 = if -2147483648 ≤ v - 2 ^ (7 * m) ∧ v - 2 ^ (7 * m) ≤ 2147483647 then (v - 2 ^ (7 * m),at0 + m,true) else (0,0,false):=by
 unfold tsR;rw [h];simp only [if_pos hb]
theorem tsR_pos {s : ByteArray} {at0 v : Int} {m : Nat} (h : tk s 5 at0 = some (v,m)) (hb : ¬ v / 2 ^ (7 * m - 1) % 2 = 1) : tsR s at0 = if -2147483648 ≤ v ∧ v ≤ 2147483647 then (v,at0 + m,true) else (0,0,false):=by
 unfold tsR;rw [h];simp only [if_neg hb]
/-- TakeS32. -/
def takeS32 (s : ByteArray) (at0 : Int) : Int × Int × Bool:=if s.size ≤ 1000 ∧ 0 ≤ at0 then tsR s at0 else (0,0,false)
theorem i64_and1 (n : Int) : bits .and .i64 n 1 = n % 2:=by
 have h1 : (BitVec.ofInt 64 1).toNat = 2 ^ 1 - 1:=by decide
 have key : (BitVec.ofInt 64 n &&& BitVec.ofInt 64 1).toNat = (n % ((2 ^ 64 : Nat) : Int)).toNat % 2 ^ 1:=by
  rw [BitVec.toNat_and,BitVec.toNat_ofInt,h1,Nat.and_two_pow_sub_one_eq_mod]
 show IntKind.i64.wrap ((BitVec.ofInt 64 n &&& BitVec.ofInt 64 1).toNat : Nat) = n % 2
 rw [key,IntKind.wrap_i64]
 omega
theorem shl_one (m : Nat) (h : m ≤ 5) : shl .i64 1 (7 * (m : Int)) = 2 ^ (7 * m):=by
 match m,h with
 | 0,_ => decide
 | 1,_ => decide
 | 2,_ => decide
 | 3,_ => decide
 | 4,_ => decide
 | 5,_ => decide
theorem shr_top (v : Int) (m : Nat) (h1 : 1 ≤ m) (h : m ≤ 5) : shr .i64 v (7 * (m : Int) - 1) = v / 2 ^ (7 * m - 1):=by
 unfold shr
 rw [show (7 * (m : Int) - 1).toNat = 7 * m - 1 from by omega,Nat.min_eq_left (by show 7 * m - 1 ≤ 64;omega)]
theorem pow_le_5 (m : Nat) (h : m ≤ 5) : (1 : Int) ≤ 2 ^ (7 * m) ∧ (2 : Int) ^ (7 * m) ≤ 34359738368:=by
 match m,h with
 | 0,_ => decide
 | 1,_ => decide
 | 2,_ => decide
 | 3,_ => decide
 | 4,_ => decide
 | 5,_ => decide
/-- The bytes from a place on. -/
def bts (s : ByteArray) : Int → Nat → List Int
 | _,0 => []
 | at0,m + 1 => bt s at0 :: bts s (at0 + 1) m
theorem bts_length (s : ByteArray) (m : Nat) : ∀ at0,(bts s at0 m).length = m:=by
 induction m with
 | zero => intro _;rfl
 | succ m ih => intro at0;simp [bts,ih]
theorem bts_get (s : ByteArray) (m : Nat) : ∀ at0 (j : Nat),j < m → (bts s at0 m)[j]? = some (bt s (at0 + j)):=by
 induction m with
 | zero => intro _ j h;omega
 | succ m ih =>
  intro at0 j h
  cases j with
  | zero => simp [bts]
  | succ j => simp only [bts,List.getElem?_cons_succ];rw [ih _ _ (by omega)];congr 2;omega
theorem bts_all (s : ByteArray) : strOfNums (bts s 0 s.size) = s:=by
 apply ByteArray.ext
 apply Array.toList_inj.mp
 rw [strOfNums_data]
 apply List.ext_getElem?
 intro j
 rw [List.getElem?_map]
 by_cases h : j < s.size
 ·rw [bts_get s _ 0 j h]
  have h' : j < s.data.toList.length:=by rw [data_length];exact h
  rw [List.getElem?_eq_getElem h']
  simp only [Option.map_some,Option.some.injEq]
  unfold bt
  rw [dif_pos (by omega)]
  have : (((0 : Int) + (j : Int)).toNat) = j:=by omega
  simp only [this]
  have e : s[j]'h = s.data.toList[j]'h':=rfl
  rw [← e]
  simp
 ·rw [List.getElem?_eq_none (by rw [bts_length];omega),List.getElem?_eq_none (by rw [data_length];omega)];rfl
theorem tk_least {s : ByteArray} (r : Nat) : ∀ {at0 v : Int} {m : Nat},tk s r at0 = some (v,m) → (lebU v.toNat).length ≤ m ∧ ((lebU v.toNat).length = m → lebU v.toNat = bts s at0 m):=by
 induction r with
 | zero => intro at0 v m h;simp [tk] at h
 | succ r ih =>
  intro at0 v m h
  simp only [tk] at h
  by_cases h1 : at0 < (s.size : Int)
  ·rw [if_pos h1] at h
   have hb:=bt_range s at0
   by_cases h2 : bt s at0 < 128
   ·rw [if_pos h2] at h
    injection h with h;injection h with h3 h4;subst h3;subst h4
    rw [lebU_small (by omega)]
    refine ⟨by simp,fun _ => ?_⟩
    simp only [bts,List.cons.injEq,and_true];omega
   ·rw [if_neg h2] at h
    cases ht : tk s r (at0 + 1) with
    | none => rw [ht] at h;simp at h
    | some p =>
     obtain ⟨v',m'⟩:=p
     rw [ht] at h
     simp only [Option.map_some,Option.some.injEq,Prod.mk.injEq] at h
     obtain ⟨rfl,rfl⟩:=h
     obtain ⟨q0,q1,q2,q3,q4⟩:=tk_some r ht
     obtain ⟨i1,i2⟩:=ih ht
     by_cases hs : (bt s at0 % 128 + 128 * v').toNat < 128
     ·rw [lebU_small hs]
      simp only [List.length_cons,List.length_nil]
      exact ⟨by omega,fun h => by omega⟩
     ·rw [lebU_big hs,show (bt s at0 % 128 + 128 * v').toNat / 128 = v'.toNat from by omega]
      simp only [List.length_cons]
      refine ⟨by omega,fun h => ?_⟩
      rw [i2 (by omega)]
      simp only [bts,List.cons.injEq,and_true]
      omega
  ·rw [if_neg h1] at h;simp at h
theorem tuR_true {s : ByteArray} {a v e : Int} (h : tuR s a = (v,e,true)) : ∃ m,tk s 5 a = some (v,m) ∧ v ≤ 4294967295 ∧ e = a + m:=by
 unfold tuR at h
 cases ht : tk s 5 a with
 | none => rw [ht] at h;simp at h
 | some p =>
  obtain ⟨v',m⟩:=p
  rw [ht] at h
  simp only at h
  by_cases hv : v' ≤ 4294967295
  ·rw [if_pos hv] at h
   simp only [Prod.mk.injEq,and_true] at h
   exact ⟨m,by rw [h.1],by omega,by omega⟩
  ·rw [if_neg hv] at h;simp at h
theorem takeU32_true {s : ByteArray} {a v e : Int} (h : takeU32 s a = (v,e,true)) : s.size ≤ 1000 ∧ 0 ≤ a ∧ 0 ≤ v ∧ v ≤ 4294967295 ∧ a < e ∧ e ≤ s.size:=by
 unfold takeU32 at h
 by_cases hs : s.size ≤ 1000 ∧ 0 ≤ a
 ·rw [if_pos hs] at h
  obtain ⟨m,h1,h2,h3⟩:=tuR_true h
  obtain ⟨q0,q1,q2,q3,q4⟩:=tk_some 5 h1
  exact ⟨hs.1,hs.2,q0,h2,by omega,by omega⟩
 ·rw [if_neg hs] at h;simp at h
/-- So many numbers from a place on. -/
def tvL (s : ByteArray) : Nat → Int → Option (List Int × Int)
 | 0,at0 => some ([],at0)
 | n + 1,at0 => if (takeU32 s at0).2.2 = true then (tvL s n (takeU32 s at0).2.1).map fun p => ((takeU32 s at0).1 :: p.1,p.2) else none
def tvR : Option (List Int × Int) → List Int × Int × Bool
 | none => ([],0,false)
 | some p => (p.1,p.2,true)
/-- TakeVec. -/
def takeVec (s : ByteArray) (at0 : Int) : List Int × Int × Bool :=
 if (takeU32 s at0).2.2 = true ∧ (takeU32 s at0).1 ≤ 50 then tvR (tvL s (takeU32 s at0).1.toNat (takeU32 s at0).2.1) else ([],0,false)
/-- Numbers that count up. -/
def upI : Int → Nat → List Int
 | _,0 => []
 | a,n + 1 => a :: upI (a + 1) n
theorem upI_length (n : Nat) : ∀ a,(upI a n).length = n:=by
 induction n with
 | zero => intro _;rfl
 | succ n ih => intro a;simp [upI,ih]
theorem set_mid {α : Type} (p q : List α) (x y : α) : (p ++ y :: q).set p.length x = p ++ x :: q:=by
 rw [List.set_append_right _ _ (Nat.le_refl _)];simp
theorem rd_mid (p q : List Int) (y : Int) : rd (p ++ y :: q) (p.length : Int) = y:=by
 unfold rd;simp
theorem append_nil_str (s : ByteArray) : s ++ (⟨#[]⟩ : ByteArray) = s:=by
 apply ByteArray.ext
 simp
/-- PutVec. -/
def putVecR (l : List Int) : ByteArray × Bool :=
 if l.length ≤ 50 ∧ ∀ x ∈ l,0 ≤ x ∧ x ≤ 4294967295 then (strOfNums (lebU l.length ++ l.flatMap fun x => lebU x.toNat),true) else ((⟨#[]⟩ : ByteArray),false)
theorem putVecR_good {l : List Int} (hx : ∀ x ∈ l,0 ≤ x ∧ x ≤ 4294967295) (hl : l.length ≤ 50) : putVecR l = (strOfNums (lebU l.length ++ l.flatMap fun x => lebU x.toNat),true):=by
 unfold putVecR;rw [if_pos ⟨hl,hx⟩]
theorem putVecR_long {l : List Int} (hl : ¬ l.length ≤ 50) : putVecR l = ((⟨#[]⟩ : ByteArray),false):=by
 unfold putVecR;rw [if_neg (fun h => hl h.1)]
theorem putVecR_bad {l : List Int} {x : Int} (hx : x ∈ l) (hxx : ¬ (0 ≤ x ∧ x ≤ 4294967295)) : putVecR l = ((⟨#[]⟩ : ByteArray),false):=by
 unfold putVecR;rw [if_neg (fun h => hxx (h.2 x hx))]
theorem within_lo {k K : Nat} (h : K + 1 ≤ k) : ∃ m,k = m + 1 ∧ K ≤ m:=⟨k - 1,by omega,by omega⟩

end Go.Proofs.Ythgkhfhfahifmaa.Lib
