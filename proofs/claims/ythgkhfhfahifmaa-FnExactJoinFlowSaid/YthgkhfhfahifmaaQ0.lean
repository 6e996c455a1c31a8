-- WRITTEN BY A PROGRAM OF THIS SESSION
import Derived.Test.YthgkhfhfahifmaaProg
import Derived.Below
import Derived.Deep.Draws
import Derived.Deep.AppendLies
import Derived.Maps.AppendAt
import Derived.OwnWalk
import Derived.Laws.BytesArg
import Derived.Laws.MakeOwn
import Derived.Laws.OwnMore
import Derived.Deep.OwnRows
import Derived.Tactics
import Derived.Lib.ConvBytes
import Derived.Laws.Slices
import Derived.WalkKit
import Derived.KernelRfl
import Derived.RowKit3
import Derived.Deep.LoopGhost
import Derived.Deep.QuietTactic
import Derived.BigQuiet
import Derived.WideLaws
import Derived.Deep.DeepCutAuto
import Derived.Deep.CutBlock
import Derived.Deep.RegionHeld3
import Derived.Laws.Rows
import Derived.Lib.AppendStr
import Derived.ArgAppend
import Derived.Laws.IdiomCopy
import Derived.OrdersHeld
import Derived.Laws.BitsLemmas
import Derived.RowKit
import Derived.Test.YthgkhfhfahifmaaWk
import Derived.Test.YthgkhfhfahifmaaWWords
import Derived.Test.YthgkhfhfahifmaaWLast
import Derived.Test.YthgkhfhfahifmaaWTab
import Derived.Test.YthgkhfhfahifmaaWFour
import Derived.Test.YthgkhfhfahifmaaWQPut
import Derived.Test.YthgkhfhfahifmaaWApart
import Derived.Test.YthgkhfhfahifmaaWArr
import Derived.Test.YthgkhfhfahifmaaWZeros
import Derived.Test.YthgkhfhfahifmaaWFoot
import Derived.Test.YthgkhfhfahifmaaWKept
import Derived.Test.YthgkhfhfahifmaaWShare
import Derived.Test.YthgkhfhfahifmaaWN
import Derived.Test.YthgkhfhfahifmaaWFootNe
import Derived.Test.YthgkhfhfahifmaaWAt
import Derived.Test.YthgkhfhfahifmaaWEqStruct
import Derived.Test.YthgkhfhfahifmaaWRepsOne
import Derived.Test.YthgkhfhfahifmaaWInv
import Derived.Test.YthgkhfhfahifmaaWInvWords
import Derived.Test.YthgkhfhfahifmaaWGuard
import Derived.Test.YthgkhfhfahifmaaWNEv
import Derived.Test.YthgkhfhfahifmaaWMore
namespace Go.Proofs.Ythgkhfhfahifmaa.Q
open Go.RowKit Go.Proofs.YthgkhfhfahifmaaW.PrintWords Go.Proofs.YthgkhfhfahifmaaW.PrintLast Go.Proofs.YthgkhfhfahifmaaW.PrintMore
attribute [local go_sem] max2_int min2_int max_two min_two max_three min_three max_four min_four   -- for this text's walks alone
set_option linter.unusedVariables false
set_option linter.unusedSimpArgs false



def errW : Option Int → Value
 | none => .nilIface
 | some c => .iface 0 (.int .i64 c)
theorem errW_none : errW none = .nilIface:=rfl
theorem errW_some (c : Int) : errW (some c) = .iface 0 (.int .i64 c):=rfl

theorem info3 : (Try.prog.info? 3).map (fun i => (i.zero,i.size,i.bytes)) = some (some (.int .i64 0),1,8):=by kernel_rfl
theorem info4 : (Try.prog.info? 4).map (fun i => (i.zero,i.size,i.bytes)) = some (some (.bool false),1,1):=by kernel_rfl
theorem info37 : (Try.prog.info? 37).map (fun i => (i.zero,i.size,i.bytes)) = some (some (.slice none 0 0),1,24):=by kernel_rfl
theorem info56 : (Try.prog.info? 56).map (fun i => (i.zero,i.size,i.bytes)) = some (some (.agg #[(.slice none 0 0),(.int .i64 0),(.int .i64 0),(.slice none 0 0)]),4,64):=by kernel_rfl
theorem info79 : (Try.prog.info? 79).map (fun i => (i.zero,i.size,i.bytes)) = some (some (.agg #[(.int .i64 0),(.int .i64 0),(.int .i64 0),(.int .i64 0),(.int .i64 0),(.int .i64 0)]),6,48):=by kernel_rfl
-- the values' own types
/-! #### struct type 97 -/
structure S97 where
 f0 : Int
 f1 : Int
 f2 : Int
 f3 : Int
 f4 : Int
 f5 : Int
def z97 : S97:=⟨(0 : Int),(0 : Int),(0 : Int),(0 : Int),(0 : Int),(0 : Int)⟩
def k97 : Kd S97:=Kd.iso (Kd.pair (Kd.int .i64) (Kd.pair (Kd.int .i64) (Kd.pair (Kd.int .i64) (Kd.pair (Kd.int .i64) (Kd.pair (Kd.int .i64) (Kd.int .i64)))))) (fun x : S97 => (x.f0,x.f1,x.f2,x.f3,x.f4,x.f5))
theorem k97_open {w : World} {x : S97} {cs : List Value} (h : k97.K w x cs) : cs = [.int .i64 x.f0,.int .i64 x.f1,.int .i64 x.f2,.int .i64 x.f3,.int .i64 x.f4,.int .i64 x.f5]:=by
 obtain ⟨_,_,rfl,rfl,⟨_,_,rfl,rfl,⟨_,_,rfl,rfl,⟨_,_,rfl,rfl,⟨_,_,rfl,rfl,rfl⟩⟩⟩⟩⟩:=h
 exact rfl
theorem k97_openM {w : World} {base : Nat} {ok : Nat → Prop} {x : S97} {cs : List Value} (h : k97.M w base ok x cs) : cs = [.int .i64 x.f0,.int .i64 x.f1,.int .i64 x.f2,.int .i64 x.f3,.int .i64 x.f4,.int .i64 x.f5]:=by
 obtain ⟨_,_,rfl,rfl,⟨_,_,rfl,rfl,⟨_,_,rfl,rfl,⟨_,_,rfl,rfl,⟨_,_,rfl,rfl,rfl⟩⟩⟩⟩⟩:=h
 exact rfl
theorem k97_mk (w : World) (x : S97)  : k97.K w x [.int .i64 x.f0,.int .i64 x.f1,.int .i64 x.f2,.int .i64 x.f3,.int .i64 x.f4,.int .i64 x.f5]:=⟨[.int .i64 x.f0],[.int .i64 x.f1,.int .i64 x.f2,.int .i64 x.f3,.int .i64 x.f4,.int .i64 x.f5],rfl,rfl,⟨[.int .i64 x.f1],[.int .i64 x.f2,.int .i64 x.f3,.int .i64 x.f4,.int .i64 x.f5],rfl,rfl,⟨[.int .i64 x.f2],[.int .i64 x.f3,.int .i64 x.f4,.int .i64 x.f5],rfl,rfl,⟨[.int .i64 x.f3],[.int .i64 x.f4,.int .i64 x.f5],rfl,rfl,⟨[.int .i64 x.f4],[.int .i64 x.f5],rfl,rfl,rfl⟩⟩⟩⟩⟩
theorem k97_mkM (w : World) (base : Nat) (ok : Nat → Prop) (x : S97)  : k97.M w base ok x [.int .i64 x.f0,.int .i64 x.f1,.int .i64 x.f2,.int .i64 x.f3,.int .i64 x.f4,.int .i64 x.f5]:=⟨[.int .i64 x.f0],[.int .i64 x.f1,.int .i64 x.f2,.int .i64 x.f3,.int .i64 x.f4,.int .i64 x.f5],rfl,rfl,⟨[.int .i64 x.f1],[.int .i64 x.f2,.int .i64 x.f3,.int .i64 x.f4,.int .i64 x.f5],rfl,rfl,⟨[.int .i64 x.f2],[.int .i64 x.f3,.int .i64 x.f4,.int .i64 x.f5],rfl,rfl,⟨[.int .i64 x.f3],[.int .i64 x.f4,.int .i64 x.f5],rfl,rfl,⟨[.int .i64 x.f4],[.int .i64 x.f5],rfl,rfl,rfl⟩⟩⟩⟩⟩
theorem k97_mkF (W : World) (ok : Nat → Prop) (x : S97) : Kd.FK k97 W ok x [.int .i64 x.f0,.int .i64 x.f1,.int .i64 x.f2,.int .i64 x.f3,.int .i64 x.f4,.int .i64 x.f5]:=fun W2 _ => k97_mk W2 x
def rd_T97 (xs : List S97) (i : Int) : S97:=xs.getD i.toNat z97
theorem at_T97 {w : World} {A : Option Addr} {n : Nat} {xs : List S97} (h : Kd.C k97 w A n xs) (i : Int) (h0 : 0 ≤ i) (h1 : i < n) : ∃ ad ,A = some ad ∧ w.cell? (ad.add (i.toNat * 6)) = some (.int .i64 (rd_T97 xs i).f0) ∧ w.cell? ⟨(ad.add (i.toNat * 6)).block,(ad.add (i.toNat * 6)).off + 1,none⟩ = some (.int .i64 (rd_T97 xs i).f1) ∧ w.cell? ⟨(ad.add (i.toNat * 6)).block,(ad.add (i.toNat * 6)).off + 2,none⟩ = some (.int .i64 (rd_T97 xs i).f2) ∧ w.cell? ⟨(ad.add (i.toNat * 6)).block,(ad.add (i.toNat * 6)).off + 3,none⟩ = some (.int .i64 (rd_T97 xs i).f3) ∧ w.cell? ⟨(ad.add (i.toNat * 6)).block,(ad.add (i.toNat * 6)).off + 4,none⟩ = some (.int .i64 (rd_T97 xs i).f4) ∧ w.cell? ⟨(ad.add (i.toNat * 6)).block,(ad.add (i.toNat * 6)).off + 5,none⟩ = some (.int .i64 (rd_T97 xs i).f5):=by
 obtain ⟨ad,c,e,_,hK,hc0⟩:=Kd.C_get h z97 i h0 h1
 have hc : ∀ j u,c[j]? = some u → w.cell? (ad.add (i.toNat * 6 + j)) = some u:=hc0
 obtain rfl:=k97_open hK
 exact ⟨ad,e,hc 0 _ rfl,by rw [← add_field _ _ 1 (by omega)];exact hc 1 _ rfl,by rw [← add_field _ _ 2 (by omega)];exact hc 2 _ rfl,by rw [← add_field _ _ 3 (by omega)];exact hc 3 _ rfl,by rw [← add_field _ _ 4 (by omega)];exact hc 4 _ rfl,by rw [← add_field _ _ 5 (by omega)];exact hc 5 _ rfl⟩

def rd_L2 (xs : List (List S97)) (i : Int) : (List S97):=xs.getD i.toNat ([] : List S97)
theorem at_L2 {w : World} {A : Option Addr} {n : Nat} {xs : List (List S97)} (h : Kd.C (Kd.slice 97 k97) w A n xs) (i : Int) (h0 : 0 ≤ i) (h1 : i < n) : ∃ ad A0 c0,A = some ad ∧ w.cell? (ad.add i.toNat) = some (.slice A0 (rd_L2 xs i).length c0) ∧ (rd_L2 xs i).length ≤ c0 ∧ k97.C w A0 (rd_L2 xs i).length (rd_L2 xs i):=by
 obtain ⟨ad,c,e,_,hK,hc0⟩:=Kd.C_get h ([] : List S97) i h0 h1
 have hc : ∀ j u,c[j]? = some u → w.cell? (ad.add (i.toNat * 1 + j)) = some u:=hc0
 obtain ⟨A0,c0,rfl,l0,g0⟩:=hK
 exact ⟨ad,A0,c0,e,by have hq:=hc 0 _ rfl;rwa [Nat.mul_one,Nat.add_zero] at hq,l0,g0⟩

def rd_L3 (xs : List (List Int)) (i : Int) : (List Int):=xs.getD i.toNat ([] : List Int)
theorem at_L3 {w : World} {A : Option Addr} {n : Nat} {xs : List (List Int)} (h : Kd.C (Kd.slice 3 (Kd.int .i64)) w A n xs) (i : Int) (h0 : 0 ≤ i) (h1 : i < n) : ∃ ad A0 c0,A = some ad ∧ w.cell? (ad.add i.toNat) = some (.slice A0 (rd_L3 xs i).length c0) ∧ (rd_L3 xs i).length ≤ c0 ∧ (Kd.int .i64).C w A0 (rd_L3 xs i).length (rd_L3 xs i):=by
 obtain ⟨ad,c,e,_,hK,hc0⟩:=Kd.C_get h ([] : List Int) i h0 h1
 have hc : ∀ j u,c[j]? = some u → w.cell? (ad.add (i.toNat * 1 + j)) = some u:=hc0
 obtain ⟨A0,c0,rfl,l0,g0⟩:=hK
 exact ⟨ad,A0,c0,e,by have hq:=hc 0 _ rfl;rwa [Nat.mul_one,Nat.add_zero] at hq,l0,g0⟩

/-! #### struct type 53 -/
structure S53 where
 f0 : (List S97)
 f1 : Int
 f2 : Int
 f3 : (List Int)
def z53 : S53:=⟨([] : List S97),(0 : Int),(0 : Int),([] : List Int)⟩
def k53 : Kd S53:=Kd.iso (Kd.pair (Kd.slice 97 k97) (Kd.pair (Kd.int .i64) (Kd.pair (Kd.int .i64) (Kd.slice 3 (Kd.int .i64))))) (fun x : S53 => (x.f0,x.f1,x.f2,x.f3))
theorem k53_open {w : World} {x : S53} {cs : List Value} (h : k53.K w x cs) : ∃ A0 c0 A3 c3,cs = [.slice A0 x.f0.length c0,.int .i64 x.f1,.int .i64 x.f2,.slice A3 x.f3.length c3] ∧ x.f0.length ≤ c0 ∧ k97.C w A0 x.f0.length x.f0 ∧ x.f3.length ≤ c3 ∧ (Kd.int .i64).C w A3 x.f3.length x.f3:=by
 obtain ⟨_,_,rfl,⟨A0,c0,rfl,l0,g0⟩,⟨_,_,rfl,rfl,⟨_,_,rfl,rfl,⟨A3,c3,rfl,l3,g3⟩⟩⟩⟩:=h
 exact ⟨A0,c0,A3,c3,rfl,l0,g0,l3,g3⟩
theorem k53_openM {w : World} {base : Nat} {ok : Nat → Prop} {x : S53} {cs : List Value} (h : k53.M w base ok x cs) : ∃ v0 v3,cs = [v0,.int .i64 x.f1,.int .i64 x.f2,v3] ∧ k97.R 97 w base ok v0 x.f0 ∧ (Kd.int .i64).R 3 w base ok v3 x.f3:=by
 obtain ⟨_,_,rfl,⟨v0,rfl,g0⟩,⟨_,_,rfl,rfl,⟨_,_,rfl,rfl,⟨v3,rfl,g3⟩⟩⟩⟩:=h
 exact ⟨v0,v3,rfl,g0,g3⟩
theorem k53_mk (w : World) (x : S53) {A0 : Option Addr} {c0 : Nat} (l0 : x.f0.length ≤ c0) (g0 : k97.C w A0 x.f0.length x.f0) {A3 : Option Addr} {c3 : Nat} (l3 : x.f3.length ≤ c3) (g3 : (Kd.int .i64).C w A3 x.f3.length x.f3) : k53.K w x [.slice A0 x.f0.length c0,.int .i64 x.f1,.int .i64 x.f2,.slice A3 x.f3.length c3]:=⟨[.slice A0 x.f0.length c0],[.int .i64 x.f1,.int .i64 x.f2,.slice A3 x.f3.length c3],rfl,⟨A0,c0,rfl,l0,g0⟩,⟨[.int .i64 x.f1],[.int .i64 x.f2,.slice A3 x.f3.length c3],rfl,rfl,⟨[.int .i64 x.f2],[.slice A3 x.f3.length c3],rfl,rfl,⟨A3,c3,rfl,l3,g3⟩⟩⟩⟩
theorem k53_mkM (w : World) (base : Nat) (ok : Nat → Prop) (x : S53) {v0 : Value} (g0 : k97.R 97 w base ok v0 x.f0) {v3 : Value} (g3 : (Kd.int .i64).R 3 w base ok v3 x.f3) : k53.M w base ok x [v0,.int .i64 x.f1,.int .i64 x.f2,v3]:=⟨[v0],[.int .i64 x.f1,.int .i64 x.f2,v3],rfl,⟨v0,rfl,g0⟩,⟨[.int .i64 x.f1],[.int .i64 x.f2,v3],rfl,rfl,⟨[.int .i64 x.f2],[v3],rfl,rfl,⟨v3,rfl,g3⟩⟩⟩⟩
theorem k53_openF {W : World} {ok : Nat → Prop} {x : S53} {cs : List Value} (h : Kd.FK k53 W ok x cs) : ∃ A0 c0 A3 c3,cs = [.slice A0 x.f0.length c0,.int .i64 x.f1,.int .i64 x.f2,.slice A3 x.f3.length c3] ∧ x.f0.length ≤ c0 ∧ Kd.F k97 W ok A0 x.f0.length x.f0 ∧ x.f3.length ≤ c3 ∧ Kd.F (Kd.int .i64) W ok A3 x.f3.length x.f3:=by
 obtain ⟨A0,c0,A3,c3,rfl,l0,_,l3,_⟩:=k53_open (Kd.FK_now h)
 exact ⟨A0,c0,A3,c3,rfl,l0,(fun W' hW => by obtain ⟨A0_,c0_,A3_,c3_,he,l0_,g0_,l3_,g3_⟩:=k53_open (h W' hW);injection (Option.some.inj (show some (Value.slice A0 x.f0.length c0) = some (Value.slice A0_ x.f0.length c0_) from congrArg (fun l => l[0]?) he)) with ha_ _ _;rw [ha_];exact g0_),l3,(fun W' hW => by obtain ⟨A0_,c0_,A3_,c3_,he,l0_,g0_,l3_,g3_⟩:=k53_open (h W' hW);injection (Option.some.inj (show some (Value.slice A3 x.f3.length c3) = some (Value.slice A3_ x.f3.length c3_) from congrArg (fun l => l[3]?) he)) with ha_ _ _;rw [ha_];exact g3_)⟩
theorem k53_mkF (W : World) (ok : Nat → Prop) (x : S53) {A0 : Option Addr} {c0 : Nat} (l0 : x.f0.length ≤ c0) (g0 : Kd.F k97 W ok A0 x.f0.length x.f0) {A3 : Option Addr} {c3 : Nat} (l3 : x.f3.length ≤ c3) (g3 : Kd.F (Kd.int .i64) W ok A3 x.f3.length x.f3) : Kd.FK k53 W ok x [.slice A0 x.f0.length c0,.int .i64 x.f1,.int .i64 x.f2,.slice A3 x.f3.length c3]:=fun W2 hW => k53_mk W2 x l0 (g0 W2 hW) l3 (g3 W2 hW)
def rd_T53 (xs : List S53) (i : Int) : S53:=xs.getD i.toNat z53
theorem at_T53 {w : World} {A : Option Addr} {n : Nat} {xs : List S53} (h : Kd.C k53 w A n xs) (i : Int) (h0 : 0 ≤ i) (h1 : i < n) : ∃ ad A0 c0 A3 c3,A = some ad ∧ w.cell? (ad.add (i.toNat * 4)) = some (.slice A0 (rd_T53 xs i).f0.length c0) ∧ w.cell? ⟨(ad.add (i.toNat * 4)).block,(ad.add (i.toNat * 4)).off + 1,none⟩ = some (.int .i64 (rd_T53 xs i).f1) ∧ w.cell? ⟨(ad.add (i.toNat * 4)).block,(ad.add (i.toNat * 4)).off + 2,none⟩ = some (.int .i64 (rd_T53 xs i).f2) ∧ w.cell? ⟨(ad.add (i.toNat * 4)).block,(ad.add (i.toNat * 4)).off + 3,none⟩ = some (.slice A3 (rd_T53 xs i).f3.length c3) ∧ (rd_T53 xs i).f0.length ≤ c0 ∧ k97.C w A0 (rd_T53 xs i).f0.length (rd_T53 xs i).f0 ∧ (rd_T53 xs i).f3.length ≤ c3 ∧ (Kd.int .i64).C w A3 (rd_T53 xs i).f3.length (rd_T53 xs i).f3:=by
 obtain ⟨ad,c,e,_,hK,hc0⟩:=Kd.C_get h z53 i h0 h1
 have hc : ∀ j u,c[j]? = some u → w.cell? (ad.add (i.toNat * 4 + j)) = some u:=hc0
 obtain ⟨A0,c0,A3,c3,rfl,l0,g0,l3,g3⟩:=k53_open hK
 exact ⟨ad,A0,c0,A3,c3,e,hc 0 _ rfl,by rw [← add_field _ _ 1 (by omega)];exact hc 1 _ rfl,by rw [← add_field _ _ 2 (by omega)];exact hc 2 _ rfl,by rw [← add_field _ _ 3 (by omega)];exact hc 3 _ rfl,l0,g0,l3,g3⟩

/-! #### struct type 79 -/
structure S79 where
 f0 : Int
 f1 : Int
 f2 : Int
 f3 : Int
 f4 : Int
 f5 : Int
def z79 : S79:=⟨(0 : Int),(0 : Int),(0 : Int),(0 : Int),(0 : Int),(0 : Int)⟩
def k79 : Kd S79:=Kd.iso (Kd.pair (Kd.int .i64) (Kd.pair (Kd.int .i64) (Kd.pair (Kd.int .i64) (Kd.pair (Kd.int .i64) (Kd.pair (Kd.int .i64) (Kd.int .i64)))))) (fun x : S79 => (x.f0,x.f1,x.f2,x.f3,x.f4,x.f5))
theorem k79_open {w : World} {x : S79} {cs : List Value} (h : k79.K w x cs) : cs = [.int .i64 x.f0,.int .i64 x.f1,.int .i64 x.f2,.int .i64 x.f3,.int .i64 x.f4,.int .i64 x.f5]:=by
 obtain ⟨_,_,rfl,rfl,⟨_,_,rfl,rfl,⟨_,_,rfl,rfl,⟨_,_,rfl,rfl,⟨_,_,rfl,rfl,rfl⟩⟩⟩⟩⟩:=h
 exact rfl
theorem k79_openM {w : World} {base : Nat} {ok : Nat → Prop} {x : S79} {cs : List Value} (h : k79.M w base ok x cs) : cs = [.int .i64 x.f0,.int .i64 x.f1,.int .i64 x.f2,.int .i64 x.f3,.int .i64 x.f4,.int .i64 x.f5]:=by
 obtain ⟨_,_,rfl,rfl,⟨_,_,rfl,rfl,⟨_,_,rfl,rfl,⟨_,_,rfl,rfl,⟨_,_,rfl,rfl,rfl⟩⟩⟩⟩⟩:=h
 exact rfl
theorem k79_mk (w : World) (x : S79)  : k79.K w x [.int .i64 x.f0,.int .i64 x.f1,.int .i64 x.f2,.int .i64 x.f3,.int .i64 x.f4,.int .i64 x.f5]:=⟨[.int .i64 x.f0],[.int .i64 x.f1,.int .i64 x.f2,.int .i64 x.f3,.int .i64 x.f4,.int .i64 x.f5],rfl,rfl,⟨[.int .i64 x.f1],[.int .i64 x.f2,.int .i64 x.f3,.int .i64 x.f4,.int .i64 x.f5],rfl,rfl,⟨[.int .i64 x.f2],[.int .i64 x.f3,.int .i64 x.f4,.int .i64 x.f5],rfl,rfl,⟨[.int .i64 x.f3],[.int .i64 x.f4,.int .i64 x.f5],rfl,rfl,⟨[.int .i64 x.f4],[.int .i64 x.f5],rfl,rfl,rfl⟩⟩⟩⟩⟩
theorem k79_mkM (w : World) (base : Nat) (ok : Nat → Prop) (x : S79)  : k79.M w base ok x [.int .i64 x.f0,.int .i64 x.f1,.int .i64 x.f2,.int .i64 x.f3,.int .i64 x.f4,.int .i64 x.f5]:=⟨[.int .i64 x.f0],[.int .i64 x.f1,.int .i64 x.f2,.int .i64 x.f3,.int .i64 x.f4,.int .i64 x.f5],rfl,rfl,⟨[.int .i64 x.f1],[.int .i64 x.f2,.int .i64 x.f3,.int .i64 x.f4,.int .i64 x.f5],rfl,rfl,⟨[.int .i64 x.f2],[.int .i64 x.f3,.int .i64 x.f4,.int .i64 x.f5],rfl,rfl,⟨[.int .i64 x.f3],[.int .i64 x.f4,.int .i64 x.f5],rfl,rfl,⟨[.int .i64 x.f4],[.int .i64 x.f5],rfl,rfl,rfl⟩⟩⟩⟩⟩
theorem k79_mkF (W : World) (ok : Nat → Prop) (x : S79) : Kd.FK k79 W ok x [.int .i64 x.f0,.int .i64 x.f1,.int .i64 x.f2,.int .i64 x.f3,.int .i64 x.f4,.int .i64 x.f5]:=fun W2 _ => k79_mk W2 x
def rd_T79 (xs : List S79) (i : Int) : S79:=xs.getD i.toNat z79
theorem at_T79 {w : World} {A : Option Addr} {n : Nat} {xs : List S79} (h : Kd.C k79 w A n xs) (i : Int) (h0 : 0 ≤ i) (h1 : i < n) : ∃ ad ,A = some ad ∧ w.cell? (ad.add (i.toNat * 6)) = some (.int .i64 (rd_T79 xs i).f0) ∧ w.cell? ⟨(ad.add (i.toNat * 6)).block,(ad.add (i.toNat * 6)).off + 1,none⟩ = some (.int .i64 (rd_T79 xs i).f1) ∧ w.cell? ⟨(ad.add (i.toNat * 6)).block,(ad.add (i.toNat * 6)).off + 2,none⟩ = some (.int .i64 (rd_T79 xs i).f2) ∧ w.cell? ⟨(ad.add (i.toNat * 6)).block,(ad.add (i.toNat * 6)).off + 3,none⟩ = some (.int .i64 (rd_T79 xs i).f3) ∧ w.cell? ⟨(ad.add (i.toNat * 6)).block,(ad.add (i.toNat * 6)).off + 4,none⟩ = some (.int .i64 (rd_T79 xs i).f4) ∧ w.cell? ⟨(ad.add (i.toNat * 6)).block,(ad.add (i.toNat * 6)).off + 5,none⟩ = some (.int .i64 (rd_T79 xs i).f5):=by
 obtain ⟨ad,c,e,_,hK,hc0⟩:=Kd.C_get h z79 i h0 h1
 have hc : ∀ j u,c[j]? = some u → w.cell? (ad.add (i.toNat * 6 + j)) = some u:=hc0
 obtain rfl:=k79_open hK
 exact ⟨ad,e,hc 0 _ rfl,by rw [← add_field _ _ 1 (by omega)];exact hc 1 _ rfl,by rw [← add_field _ _ 2 (by omega)];exact hc 2 _ rfl,by rw [← add_field _ _ 3 (by omega)];exact hc 3 _ rfl,by rw [← add_field _ _ 4 (by omega)];exact hc 4 _ rfl,by rw [← add_field _ _ 5 (by omega)];exact hc 5 _ rfl⟩

def rd_L6 (xs : List (List S79)) (i : Int) : (List S79):=xs.getD i.toNat ([] : List S79)
theorem at_L6 {w : World} {A : Option Addr} {n : Nat} {xs : List (List S79)} (h : Kd.C (Kd.slice 79 k79) w A n xs) (i : Int) (h0 : 0 ≤ i) (h1 : i < n) : ∃ ad A0 c0,A = some ad ∧ w.cell? (ad.add i.toNat) = some (.slice A0 (rd_L6 xs i).length c0) ∧ (rd_L6 xs i).length ≤ c0 ∧ k79.C w A0 (rd_L6 xs i).length (rd_L6 xs i):=by
 obtain ⟨ad,c,e,_,hK,hc0⟩:=Kd.C_get h ([] : List S79) i h0 h1
 have hc : ∀ j u,c[j]? = some u → w.cell? (ad.add (i.toNat * 1 + j)) = some u:=hc0
 obtain ⟨A0,c0,rfl,l0,g0⟩:=hK
 exact ⟨ad,A0,c0,e,by have hq:=hc 0 _ rfl;rwa [Nat.mul_one,Nat.add_zero] at hq,l0,g0⟩

/-! #### struct type 56 -/
structure S56 where
 f0 : (List S79)
 f1 : Int
 f2 : Int
 f3 : (List Int)
def z56 : S56:=⟨([] : List S79),(0 : Int),(0 : Int),([] : List Int)⟩
def k56 : Kd S56:=Kd.iso (Kd.pair (Kd.slice 79 k79) (Kd.pair (Kd.int .i64) (Kd.pair (Kd.int .i64) (Kd.slice 3 (Kd.int .i64))))) (fun x : S56 => (x.f0,x.f1,x.f2,x.f3))
theorem k56_open {w : World} {x : S56} {cs : List Value} (h : k56.K w x cs) : ∃ A0 c0 A3 c3,cs = [.slice A0 x.f0.length c0,.int .i64 x.f1,.int .i64 x.f2,.slice A3 x.f3.length c3] ∧ x.f0.length ≤ c0 ∧ k79.C w A0 x.f0.length x.f0 ∧ x.f3.length ≤ c3 ∧ (Kd.int .i64).C w A3 x.f3.length x.f3:=by
 obtain ⟨_,_,rfl,⟨A0,c0,rfl,l0,g0⟩,⟨_,_,rfl,rfl,⟨_,_,rfl,rfl,⟨A3,c3,rfl,l3,g3⟩⟩⟩⟩:=h
 exact ⟨A0,c0,A3,c3,rfl,l0,g0,l3,g3⟩
theorem k56_openM {w : World} {base : Nat} {ok : Nat → Prop} {x : S56} {cs : List Value} (h : k56.M w base ok x cs) : ∃ v0 v3,cs = [v0,.int .i64 x.f1,.int .i64 x.f2,v3] ∧ k79.R 79 w base ok v0 x.f0 ∧ (Kd.int .i64).R 3 w base ok v3 x.f3:=by
 obtain ⟨_,_,rfl,⟨v0,rfl,g0⟩,⟨_,_,rfl,rfl,⟨_,_,rfl,rfl,⟨v3,rfl,g3⟩⟩⟩⟩:=h
 exact ⟨v0,v3,rfl,g0,g3⟩
theorem k56_mk (w : World) (x : S56) {A0 : Option Addr} {c0 : Nat} (l0 : x.f0.length ≤ c0) (g0 : k79.C w A0 x.f0.length x.f0) {A3 : Option Addr} {c3 : Nat} (l3 : x.f3.length ≤ c3) (g3 : (Kd.int .i64).C w A3 x.f3.length x.f3) : k56.K w x [.slice A0 x.f0.length c0,.int .i64 x.f1,.int .i64 x.f2,.slice A3 x.f3.length c3]:=⟨[.slice A0 x.f0.length c0],[.int .i64 x.f1,.int .i64 x.f2,.slice A3 x.f3.length c3],rfl,⟨A0,c0,rfl,l0,g0⟩,⟨[.int .i64 x.f1],[.int .i64 x.f2,.slice A3 x.f3.length c3],rfl,rfl,⟨[.int .i64 x.f2],[.slice A3 x.f3.length c3],rfl,rfl,⟨A3,c3,rfl,l3,g3⟩⟩⟩⟩
theorem k56_mkM (w : World) (base : Nat) (ok : Nat → Prop) (x : S56) {v0 : Value} (g0 : k79.R 79 w base ok v0 x.f0) {v3 : Value} (g3 : (Kd.int .i64).R 3 w base ok v3 x.f3) : k56.M w base ok x [v0,.int .i64 x.f1,.int .i64 x.f2,v3]:=⟨[v0],[.int .i64 x.f1,.int .i64 x.f2,v3],rfl,⟨v0,rfl,g0⟩,⟨[.int .i64 x.f1],[.int .i64 x.f2,v3],rfl,rfl,⟨[.int .i64 x.f2],[v3],rfl,rfl,⟨v3,rfl,g3⟩⟩⟩⟩
theorem k56_openF {W : World} {ok : Nat → Prop} {x : S56} {cs : List Value} (h : Kd.FK k56 W ok x cs) : ∃ A0 c0 A3 c3,cs = [.slice A0 x.f0.length c0,.int .i64 x.f1,.int .i64 x.f2,.slice A3 x.f3.length c3] ∧ x.f0.length ≤ c0 ∧ Kd.F k79 W ok A0 x.f0.length x.f0 ∧ x.f3.length ≤ c3 ∧ Kd.F (Kd.int .i64) W ok A3 x.f3.length x.f3:=by
 obtain ⟨A0,c0,A3,c3,rfl,l0,_,l3,_⟩:=k56_open (Kd.FK_now h)
 exact ⟨A0,c0,A3,c3,rfl,l0,(fun W' hW => by obtain ⟨A0_,c0_,A3_,c3_,he,l0_,g0_,l3_,g3_⟩:=k56_open (h W' hW);injection (Option.some.inj (show some (Value.slice A0 x.f0.length c0) = some (Value.slice A0_ x.f0.length c0_) from congrArg (fun l => l[0]?) he)) with ha_ _ _;rw [ha_];exact g0_),l3,(fun W' hW => by obtain ⟨A0_,c0_,A3_,c3_,he,l0_,g0_,l3_,g3_⟩:=k56_open (h W' hW);injection (Option.some.inj (show some (Value.slice A3 x.f3.length c3) = some (Value.slice A3_ x.f3.length c3_) from congrArg (fun l => l[3]?) he)) with ha_ _ _;rw [ha_];exact g3_)⟩
theorem k56_mkF (W : World) (ok : Nat → Prop) (x : S56) {A0 : Option Addr} {c0 : Nat} (l0 : x.f0.length ≤ c0) (g0 : Kd.F k79 W ok A0 x.f0.length x.f0) {A3 : Option Addr} {c3 : Nat} (l3 : x.f3.length ≤ c3) (g3 : Kd.F (Kd.int .i64) W ok A3 x.f3.length x.f3) : Kd.FK k56 W ok x [.slice A0 x.f0.length c0,.int .i64 x.f1,.int .i64 x.f2,.slice A3 x.f3.length c3]:=fun W2 hW => k56_mk W2 x l0 (g0 W2 hW) l3 (g3 W2 hW)
def rd_T56 (xs : List S56) (i : Int) : S56:=xs.getD i.toNat z56
theorem at_T56 {w : World} {A : Option Addr} {n : Nat} {xs : List S56} (h : Kd.C k56 w A n xs) (i : Int) (h0 : 0 ≤ i) (h1 : i < n) : ∃ ad A0 c0 A3 c3,A = some ad ∧ w.cell? (ad.add (i.toNat * 4)) = some (.slice A0 (rd_T56 xs i).f0.length c0) ∧ w.cell? ⟨(ad.add (i.toNat * 4)).block,(ad.add (i.toNat * 4)).off + 1,none⟩ = some (.int .i64 (rd_T56 xs i).f1) ∧ w.cell? ⟨(ad.add (i.toNat * 4)).block,(ad.add (i.toNat * 4)).off + 2,none⟩ = some (.int .i64 (rd_T56 xs i).f2) ∧ w.cell? ⟨(ad.add (i.toNat * 4)).block,(ad.add (i.toNat * 4)).off + 3,none⟩ = some (.slice A3 (rd_T56 xs i).f3.length c3) ∧ (rd_T56 xs i).f0.length ≤ c0 ∧ k79.C w A0 (rd_T56 xs i).f0.length (rd_T56 xs i).f0 ∧ (rd_T56 xs i).f3.length ≤ c3 ∧ (Kd.int .i64).C w A3 (rd_T56 xs i).f3.length (rd_T56 xs i).f3:=by
 obtain ⟨ad,c,e,_,hK,hc0⟩:=Kd.C_get h z56 i h0 h1
 have hc : ∀ j u,c[j]? = some u → w.cell? (ad.add (i.toNat * 4 + j)) = some u:=hc0
 obtain ⟨A0,c0,A3,c3,rfl,l0,g0,l3,g3⟩:=k56_open hK
 exact ⟨ad,A0,c0,A3,c3,e,hc 0 _ rfl,by rw [← add_field _ _ 1 (by omega)];exact hc 1 _ rfl,by rw [← add_field _ _ 2 (by omega)];exact hc 2 _ rfl,by rw [← add_field _ _ 3 (by omega)];exact hc 3 _ rfl,l0,g0,l3,g3⟩

def rd_L8 (xs : List (List S56)) (i : Int) : (List S56):=xs.getD i.toNat ([] : List S56)
theorem at_L8 {w : World} {A : Option Addr} {n : Nat} {xs : List (List S56)} (h : Kd.C (Kd.slice 56 k56) w A n xs) (i : Int) (h0 : 0 ≤ i) (h1 : i < n) : ∃ ad A0 c0,A = some ad ∧ w.cell? (ad.add i.toNat) = some (.slice A0 (rd_L8 xs i).length c0) ∧ (rd_L8 xs i).length ≤ c0 ∧ k56.C w A0 (rd_L8 xs i).length (rd_L8 xs i):=by
 obtain ⟨ad,c,e,_,hK,hc0⟩:=Kd.C_get h ([] : List S56) i h0 h1
 have hc : ∀ j u,c[j]? = some u → w.cell? (ad.add (i.toNat * 1 + j)) = some u:=hc0
 obtain ⟨A0,c0,rfl,l0,g0⟩:=hK
 exact ⟨ad,A0,c0,e,by have hq:=hc 0 _ rfl;rwa [Nat.mul_one,Nat.add_zero] at hq,l0,g0⟩

def rd_L9 (xs : List (List (List Int))) (i : Int) : (List (List Int)):=xs.getD i.toNat ([] : List (List Int))
theorem at_L9 {w : World} {A : Option Addr} {n : Nat} {xs : List (List (List Int))} (h : Kd.C (Kd.slice 37 (Kd.slice 3 (Kd.int .i64))) w A n xs) (i : Int) (h0 : 0 ≤ i) (h1 : i < n) : ∃ ad A0 c0,A = some ad ∧ w.cell? (ad.add i.toNat) = some (.slice A0 (rd_L9 xs i).length c0) ∧ (rd_L9 xs i).length ≤ c0 ∧ (Kd.slice 3 (Kd.int .i64)).C w A0 (rd_L9 xs i).length (rd_L9 xs i):=by
 obtain ⟨ad,c,e,_,hK,hc0⟩:=Kd.C_get h ([] : List (List Int)) i h0 h1
 have hc : ∀ j u,c[j]? = some u → w.cell? (ad.add (i.toNat * 1 + j)) = some u:=hc0
 obtain ⟨A0,c0,rfl,l0,g0⟩:=hK
 exact ⟨ad,A0,c0,e,by have hq:=hc 0 _ rfl;rwa [Nat.mul_one,Nat.add_zero] at hq,l0,g0⟩

def rd_L11 (xs : List (List (List S79))) (i : Int) : (List (List S79)):=xs.getD i.toNat ([] : List (List S79))
theorem at_L11 {w : World} {A : Option Addr} {n : Nat} {xs : List (List (List S79))} (h : Kd.C (Kd.slice 54 (Kd.slice 79 k79)) w A n xs) (i : Int) (h0 : 0 ≤ i) (h1 : i < n) : ∃ ad A0 c0,A = some ad ∧ w.cell? (ad.add i.toNat) = some (.slice A0 (rd_L11 xs i).length c0) ∧ (rd_L11 xs i).length ≤ c0 ∧ (Kd.slice 79 k79).C w A0 (rd_L11 xs i).length (rd_L11 xs i):=by
 obtain ⟨ad,c,e,_,hK,hc0⟩:=Kd.C_get h ([] : List (List S79)) i h0 h1
 have hc : ∀ j u,c[j]? = some u → w.cell? (ad.add (i.toNat * 1 + j)) = some u:=hc0
 obtain ⟨A0,c0,rfl,l0,g0⟩:=hK
 exact ⟨ad,A0,c0,e,by have hq:=hc 0 _ rfl;rwa [Nat.mul_one,Nat.add_zero] at hq,l0,g0⟩

def rd_L12 (xs : List (List S53)) (i : Int) : (List S53):=xs.getD i.toNat ([] : List S53)
theorem at_L12 {w : World} {A : Option Addr} {n : Nat} {xs : List (List S53)} (h : Kd.C (Kd.slice 53 k53) w A n xs) (i : Int) (h0 : 0 ≤ i) (h1 : i < n) : ∃ ad A0 c0,A = some ad ∧ w.cell? (ad.add i.toNat) = some (.slice A0 (rd_L12 xs i).length c0) ∧ (rd_L12 xs i).length ≤ c0 ∧ k53.C w A0 (rd_L12 xs i).length (rd_L12 xs i):=by
 obtain ⟨ad,c,e,_,hK,hc0⟩:=Kd.C_get h ([] : List S53) i h0 h1
 have hc : ∀ j u,c[j]? = some u → w.cell? (ad.add (i.toNat * 1 + j)) = some u:=hc0
 obtain ⟨A0,c0,rfl,l0,g0⟩:=hK
 exact ⟨ad,A0,c0,e,by have hq:=hc 0 _ rfl;rwa [Nat.mul_one,Nat.add_zero] at hq,l0,g0⟩

def Good97 (x : S97) : Prop:=(fun x => (Lit.int .i64 x).wf = true) x.f0 ∧ (fun x => (Lit.int .i64 x).wf = true) x.f1 ∧ (fun x => (Lit.int .i64 x).wf = true) x.f2 ∧ (fun x => (Lit.int .i64 x).wf = true) x.f3 ∧ (fun x => (Lit.int .i64 x).wf = true) x.f4 ∧ (fun x => (Lit.int .i64 x).wf = true) x.f5
def Good53 (x : S53) : Prop:=(fun xs => xs.length ≤ maxLen ∧ ∀ x ∈ xs,Good97 x) x.f0 ∧ (fun x => (Lit.int .i64 x).wf = true) x.f1 ∧ (fun x => (Lit.int .i64 x).wf = true) x.f2 ∧ (fun xs => xs.length ≤ maxLen ∧ ∀ x ∈ xs,(fun x => (Lit.int .i64 x).wf = true) x) x.f3
def Good79 (x : S79) : Prop:=(fun x => (Lit.int .i64 x).wf = true) x.f0 ∧ (fun x => (Lit.int .i64 x).wf = true) x.f1 ∧ (fun x => (Lit.int .i64 x).wf = true) x.f2 ∧ (fun x => (Lit.int .i64 x).wf = true) x.f3 ∧ (fun x => (Lit.int .i64 x).wf = true) x.f4 ∧ (fun x => (Lit.int .i64 x).wf = true) x.f5
def Good56 (x : S56) : Prop:=(fun xs => xs.length ≤ maxLen ∧ ∀ x ∈ xs,Good79 x) x.f0 ∧ (fun x => (Lit.int .i64 x).wf = true) x.f1 ∧ (fun x => (Lit.int .i64 x).wf = true) x.f2 ∧ (fun xs => xs.length ≤ maxLen ∧ ∀ x ∈ xs,(fun x => (Lit.int .i64 x).wf = true) x) x.f3
theorem k79_heap : Kd.Heap k79:=Kd.heap_iso _ (Kd.heap_pair (Kd.heap_int .i64) (Kd.heap_pair (Kd.heap_int .i64) (Kd.heap_pair (Kd.heap_int .i64) (Kd.heap_pair (Kd.heap_int .i64) (Kd.heap_pair (Kd.heap_int .i64) (Kd.heap_int .i64))))))
theorem k56_heap : Kd.Heap k56:=Kd.heap_iso _ (Kd.heap_pair (Kd.heap_slice 79 k79_heap) (Kd.heap_pair (Kd.heap_int .i64) (Kd.heap_pair (Kd.heap_int .i64) (Kd.heap_slice 3 (Kd.heap_int .i64)))))
theorem oth2 {g : Nat} (W : World) (a b : Nat) (u v : Value) (h : W.cell? ⟨g,a,none⟩ = some v) (hne : b ≠ a) : (W.setCell ⟨g,b,none⟩ u).cell? ⟨g,a,none⟩ = some v:=by
 rw [World.cell?_setCell_other]
 ·exact h
 ·intro e
  injection e with _ e2
  exact hne e2
theorem frz_set (W : World) (p q : Addr) (u : Value) : (W.setCell p u).frozen? q = W.frozen? q:=by simp
/-- A block of a row, as its cells tell it. -/
theorem J_elem {W : World} {base g n cap : Nat} {P : Nat → Prop} {xs : List S56} (h : Kd.S k56 56 W base P (.slice (some ⟨g,0,none⟩) n cap) xs) (i : Int) (h0 : 0 ≤ i) (h1 : i < n) :
  ∃ A0 c0 v3,W.cell? ⟨g,i.toNat * 4,none⟩ = some (.slice A0 (rd_T56 xs i).f0.length c0) ∧ W.cell? ⟨g,i.toNat * 4 + 1,none⟩ = some (.int .i64 (rd_T56 xs i).f1) ∧ W.cell? ⟨g,i.toNat * 4 + 2,none⟩ = some (.int .i64 (rd_T56 xs i).f2) ∧ W.cell? ⟨g,i.toNat * 4 + 3,none⟩ = some v3 ∧
   k79.C W A0 (rd_T56 xs i).f0.length (rd_T56 xs i).f0 ∧ (rd_T56 xs i).f0.length ≤ c0 ∧ (Kd.int .i64).R 3 W base (fun k => k ≠ g) v3 (rd_T56 xs i).f3 ∧ ∀ j,W.frozen? ⟨g,i.toNat * 4 + j,none⟩ = false:=by
 obtain ⟨oki,c,_,hM,hcc,hfr,hoki,_⟩:=Kd.S_elem h z56 i h0 h1
 obtain ⟨v0,v3,rfl,hR0,hR3⟩:=k56_openM hM
 obtain ⟨A0,c0,rfl⟩:=Kd.R_slice hR0
 have q:=Kd.R_reads' hR0
 exact ⟨A0,c0,v3,hcc 0 _ rfl,hcc 1 _ rfl,hcc 2 _ rfl,hcc 3 _ rfl,q.2.2,q.2.1,Kd.R_mono hR3 (fun k hk => (hoki k hk).2),hfr⟩
/-- A block of a row is written anew, cell by cell. -/
theorem J_put {W W1 W3 : World} {base g n cap : Nat} {P : Nat → Prop} {xs : List S56} {i : Int} {v0 v3 : Value} {code : List S79} {nx : List Int} {go tst : Int} (h : Kd.S k56 56 W base P (.slice (some ⟨g,0,none⟩) n cap) xs) (hbs : base ≤ W.heap.size) (h0 : 0 ≤ i) (h1 : i < n)
  (hb : Below W.heap.size W W1) (r0 : k79.R 79 W1 W.heap.size (fun _ => True) v0 code) (hb3 : Below (W1.setCell ⟨g,i.toNat * 4,none⟩ v0).heap.size (W1.setCell ⟨g,i.toNat * 4,none⟩ v0) W3) (r3 : (Kd.int .i64).R 3 W3 (W1.setCell ⟨g,i.toNat * 4,none⟩ v0).heap.size (fun _ => True) v3 nx) :
  Kd.S k56 56 (((W3.setCell ⟨g,i.toNat * 4 + 1,none⟩ (.int .i64 go)).setCell ⟨g,i.toNat * 4 + 2,none⟩ (.int .i64 tst)).setCell ⟨g,i.toNat * 4 + 3,none⟩ v3) base (fun k => P k ∨ W.heap.size ≤ k) (.slice (some ⟨g,0,none⟩) n cap) (xs.set i.toNat ⟨code,go,tst,nx⟩):=by
 have hgl : g < W.heap.size:=Kd.R_lt (Kd.S_R h) g (by simp [Value.ownBlock])
 obtain ⟨oki,c,hcl,hM,hcc,hfr,hoki,hH⟩:=Kd.S_elem (Kd.S_mono h (fun k hk => (.inl hk : P k ∨ W.heap.size ≤ k))) z56 i h0 h1
 obtain ⟨w0,w3,rfl,_,_⟩:=k56_openM hM
 have hs1:=hb.size
 have hsz : k56.sz = 4:=rfl
 have one0 : ∀ q ∈ [v0],q.oneCell' = true:=fun q hq => by rw [List.mem_singleton.1 hq];exact (Kd.R_val r0).2
 have one3 : ∀ q ∈ [v3],q.oneCell' = true:=fun q hq => by rw [List.mem_singleton.1 hq];exact (Kd.R_val r3).2
 have H1:=Kd.H_below (Kd.H_widen hH) hb
 have H2:=(Kd.H_seg H1 h0 h1 (seg:=[v0]) (j:=0) (by rw [hsz];simp) one0).1
 rw [hsz,show W1.setCells g (i.toNat * 4 + 0) [v0] = W1.setCell ⟨g,i.toNat * 4,none⟩ v0 by simp [World.setCells]] at H2
 have H3:=Kd.H_below H2 hb3
 have H4:=(Kd.H_seg H3 h0 h1 (seg:=[.int .i64 go]) (j:=1) (by rw [hsz];simp) (fun q hq => by rw [List.mem_singleton.1 hq];rfl)).1
 rw [hsz,show W3.setCells g (i.toNat * 4 + 1) [.int .i64 go] = W3.setCell ⟨g,i.toNat * 4 + 1,none⟩ (.int .i64 go) by simp [World.setCells]] at H4
 have H5:=(Kd.H_seg H4 h0 h1 (seg:=[.int .i64 tst]) (j:=2) (by rw [hsz];simp) (fun q hq => by rw [List.mem_singleton.1 hq];rfl)).1
 rw [hsz,show (W3.setCell ⟨g,i.toNat * 4 + 1,none⟩ (.int .i64 go)).setCells g (i.toNat * 4 + 2) [.int .i64 tst] = (W3.setCell ⟨g,i.toNat * 4 + 1,none⟩ (.int .i64 go)).setCell ⟨g,i.toNat * 4 + 2,none⟩ (.int .i64 tst) by simp [World.setCells]] at H5
 have H6:=(Kd.H_seg H5 h0 h1 (seg:=[v3]) (j:=3) (by rw [hsz];simp) one3).1
 rw [hsz,show ((W3.setCell ⟨g,i.toNat * 4 + 1,none⟩ (.int .i64 go)).setCell ⟨g,i.toNat * 4 + 2,none⟩ (.int .i64 tst)).setCells g (i.toNat * 4 + 3) [v3] = ((W3.setCell ⟨g,i.toNat * 4 + 1,none⟩ (.int .i64 go)).setCell ⟨g,i.toNat * 4 + 2,none⟩ (.int .i64 tst)).setCell ⟨g,i.toNat * 4 + 3,none⟩ v3 by simp [World.setCells]] at H6
 have hs2 : W1.heap.size = (W1.setCell ⟨g,i.toNat * 4,none⟩ v0).heap.size:=by simp [World.setCell]
 have f0:=Kd.R_below (Kd.R_far (p:=⟨g,i.toNat * 4,none⟩) (Kd.R_mono (Kd.R_bound r0) (fun k hk => hk.2.1)) (fun k hk e => by have e2 : k = g:=e;omega) v0) hb3
 have f3:=Kd.R_mono (ok':=fun k => W.heap.size ≤ k) (Kd.R_bound r3) (fun k hk => by have:=hk.2.1;omega)
 have far : ∀ {α : Type} {d : Kd α} {e b : Nat} {W' : World} {v : Value} {ys : List α} (j : Nat) (u : Value),d.R e W' b (fun k => W.heap.size ≤ k) v ys → d.R e (W'.setCell ⟨g,j,none⟩ u) b (fun k => W.heap.size ≤ k) v ys:=fun j u hr => Kd.R_far (p:=⟨g,j,none⟩) hr (fun k hk e => by have e2 : k = g:=e;omega) u
 refine Kd.H_back H6 (okp:=fun k => W.heap.size ≤ k) (k56_mkM _ base _ ⟨code,go,tst,nx⟩ (Kd.R_lower (far _ _ (far _ _ (far _ _ f0))) hbs) (Kd.R_lower (far _ _ (far _ _ (far _ _ f3))) (by omega))) (fun k hk => .inr ⟨.inr hk,hk⟩)
/-- A block of a row is written anew, all cells in one step. -/
theorem J_put4 {W W1 : World} {base g n cap : Nat} {P : Nat → Prop} {xs : List S56} {i : Int} {v0 v3 : Value} {code : List S79} {nx : List Int} {go tst : Int} (h : Kd.S k56 56 W base P (.slice (some ⟨g,0,none⟩) n cap) xs) (hbs : base ≤ W.heap.size) (h0 : 0 ≤ i) (h1 : i < n)
  (hb : Below W.heap.size W W1) (r0 : k79.R 79 W1 W.heap.size (fun _ => True) v0 code) (r3 : (Kd.int .i64).R 3 W1 W.heap.size (fun _ => True) v3 nx) :
  Kd.S k56 56 ((((W1.setCell ⟨g,i.toNat * 4,none⟩ v0).setCell ⟨g,i.toNat * 4 + 1,none⟩ (.int .i64 go)).setCell ⟨g,i.toNat * 4 + 2,none⟩ (.int .i64 tst)).setCell ⟨g,i.toNat * 4 + 3,none⟩ v3) base (fun k => P k ∨ W.heap.size ≤ k) (.slice (some ⟨g,0,none⟩) n cap) (xs.set i.toNat ⟨code,go,tst,nx⟩):=by
 have hgl : g < W.heap.size:=Kd.R_lt (Kd.S_R h) g (by simp [Value.ownBlock])
 obtain ⟨oki,c,hcl,hM,hcc,hfr,hoki,hH⟩:=Kd.S_elem (Kd.S_mono h (fun k hk => (.inl hk : P k ∨ W.heap.size ≤ k))) z56 i h0 h1
 obtain ⟨w0,w3,rfl,_,_⟩:=k56_openM hM
 have hsz : k56.sz = 4:=rfl
 have one : ∀ q ∈ [v0,.int .i64 go,.int .i64 tst,v3],q.oneCell' = true:=by
  intro q hq
  simp only [List.mem_cons,List.not_mem_nil,or_false] at hq
  rcases hq with rfl | rfl | rfl | rfl
  ·exact (Kd.R_val r0).2
  ·rfl
  ·rfl
  ·exact (Kd.R_val r3).2
 have H2:=(Kd.H_seg (Kd.H_below (Kd.H_widen hH) hb) h0 h1 (seg:=[v0,.int .i64 go,.int .i64 tst,v3]) (j:=0) (by rw [hsz];simp) one).1
 rw [hsz,show W1.setCells g (i.toNat * 4 + 0) [v0,.int .i64 go,.int .i64 tst,v3] = (((W1.setCell ⟨g,i.toNat * 4,none⟩ v0).setCell ⟨g,i.toNat * 4 + 1,none⟩ (.int .i64 go)).setCell ⟨g,i.toNat * 4 + 2,none⟩ (.int .i64 tst)).setCell ⟨g,i.toNat * 4 + 3,none⟩ v3 by simp [World.setCells,Nat.add_assoc]] at H2
 have far : ∀ {α : Type} {d : Kd α} {e b : Nat} {W' : World} {v : Value} {ys : List α} (j : Nat) (u : Value),d.R e W' b (fun k => W.heap.size ≤ k) v ys → d.R e (W'.setCell ⟨g,j,none⟩ u) b (fun k => W.heap.size ≤ k) v ys:=fun j u hr => Kd.R_far (p:=⟨g,j,none⟩) hr (fun k hk e => by have e2 : k = g:=e;omega) u
 have f0:=Kd.R_mono (ok':=fun k => W.heap.size ≤ k) (Kd.R_bound r0) (fun k hk => hk.2.1)
 have f3:=Kd.R_mono (ok':=fun k => W.heap.size ≤ k) (Kd.R_bound r3) (fun k hk => hk.2.1)
 refine Kd.H_back H2 (okp:=fun k => W.heap.size ≤ k) (k56_mkM _ base _ ⟨code,go,tst,nx⟩ (Kd.R_lower (far _ _ (far _ _ (far _ _ (far _ _ f0)))) hbs) (Kd.R_lower (far _ _ (far _ _ (far _ _ (far _ _ f3)))) hbs)) (fun k hk => .inr ⟨.inr hk,hk⟩)

end Go.Proofs.Ythgkhfhfahifmaa.Q
