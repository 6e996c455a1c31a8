/-
  No cell of these rows narrows 'for every input' (looked for: loops, veiled, ifaces, maps, wideKeys, modest, calm, conditions, laid).
  DERIVED. THE GIVEN ROWS OF THIS SEAT. 13 by the template 'for every input the law returns true; each argument reads behind the call as it read before'; 0 by the template 'total and deterministic' (their statements: YtofokedphkmfnaaTotals.lean).
  GIVEN WITH THE SEED: the statements are not yours to turn. If you find one false, say at which input.
  Laid BY PROGRAM, IN A SANDBOX (cutbox-rows.mjs): the forced cells as the released guide's own fill.sh prints them over the translation 36eabc8008e0718e… (all of the seat's roots in one cut). By AI agents, Wed Nov 11 2026. No macro, syntax, notation, axiom, sorry.
-/
import Derived.Test.YtofokedphkmfnaaChecked
import GoSem.Claim
import GoSem.ClaimJoined
import GoSem.ClaimMapViews
import Derived.JoinedTies
import Derived.KernelRfl
namespace Go.Proofs.Ytofokedphkmfnaa
/- THE CELL 'sum', in the pinned program and in every row, IS THE sha256 OF THE DUMP (.gsa) THAT YtofokedphkmfnaaProg.lean LOADS. Nothing in Lean hashes anything: it is a label: what it is worth is what the hold of that sum in a sandbox is worth. -/
noncomputable def Try.pinned : Pinned := { name := "ytofokedphkmfnaa", sum := "36eabc8008e0718efcebb26e913ad3f1746760ac73b7bc94d92f85d55004df6c", checked := Try.checked }
namespace Rows
def none {H : Type} : Left H := { results := [], args := [] }

/-- 'laws.FnExactConstants': WHATEVER THE INPUT: true; the input reads as it did. -/
def fnExactConstantsSpec : ChangeSpec := { name := "fnExactConstants", fn := fun _ => fun
  | [] => { results := [.lit (.bool true)], args := [] }
  | _ => none }
def fnExactConstantsRow : OpenClaim := { program := "ytofokedphkmfnaa", sum := "36eabc8008e0718efcebb26e913ad3f1746760ac73b7bc94d92f85d55004df6c", func := "loop.example/g00373/laws.FnExactConstants", spec := "fnExactConstants", apart := false }
def FnExactConstantsSaid : Prop := fnExactConstantsRow.holds Try.pinned (OpenSpec.ofChange fnExactConstantsSpec)

/-- ITS FALSE NEIGHBOUR: 'it returns false'. Refute it at one input. -/
def fnExactConstantsWrong : ChangeSpec := { name := "fnExactConstants", fn := fun _ => fun
  | [] => { results := [.lit (.bool false)], args := [] }
  | _ => none }
def FnExactConstantsWrongFalsely : Prop := fnExactConstantsRow.holds Try.pinned (OpenSpec.ofChange fnExactConstantsWrong)

/-- 'laws.FnExactPutS32': WHATEVER THE INPUT: true; the input reads as it did. -/
def fnExactPutS32Spec : ChangeSpec := { name := "fnExactPutS32", fn := fun _ => fun
  | [d] => { results := [.lit (.bool true)], args := [d] }
  | _ => none }
def fnExactPutS32Row : OpenClaim := { program := "ytofokedphkmfnaa", sum := "36eabc8008e0718efcebb26e913ad3f1746760ac73b7bc94d92f85d55004df6c", func := "loop.example/g00373/laws.FnExactPutS32", spec := "fnExactPutS32", apart := false }
def FnExactPutS32Said : Prop := fnExactPutS32Row.holds Try.pinned (OpenSpec.ofChange fnExactPutS32Spec)

/-- ITS FALSE NEIGHBOUR: 'it returns false'. Refute it at one input. -/
def fnExactPutS32Wrong : ChangeSpec := { name := "fnExactPutS32", fn := fun _ => fun
  | [d] => { results := [.lit (.bool false)], args := [d] }
  | _ => none }
def FnExactPutS32WrongFalsely : Prop := fnExactPutS32Row.holds Try.pinned (OpenSpec.ofChange fnExactPutS32Wrong)

/-- 'laws.FnExactPutU32': WHATEVER THE INPUT: true; the input reads as it did. -/
def fnExactPutU32Spec : ChangeSpec := { name := "fnExactPutU32", fn := fun _ => fun
  | [d] => { results := [.lit (.bool true)], args := [d] }
  | _ => none }
def fnExactPutU32Row : OpenClaim := { program := "ytofokedphkmfnaa", sum := "36eabc8008e0718efcebb26e913ad3f1746760ac73b7bc94d92f85d55004df6c", func := "loop.example/g00373/laws.FnExactPutU32", spec := "fnExactPutU32", apart := false }
def FnExactPutU32Said : Prop := fnExactPutU32Row.holds Try.pinned (OpenSpec.ofChange fnExactPutU32Spec)

/-- ITS FALSE NEIGHBOUR: 'it returns false'. Refute it at one input. -/
def fnExactPutU32Wrong : ChangeSpec := { name := "fnExactPutU32", fn := fun _ => fun
  | [d] => { results := [.lit (.bool false)], args := [d] }
  | _ => none }
def FnExactPutU32WrongFalsely : Prop := fnExactPutU32Row.holds Try.pinned (OpenSpec.ofChange fnExactPutU32Wrong)

/-- 'laws.FnExactLenS32': WHATEVER THE INPUT: true; the input reads as it did. -/
def fnExactLenS32Spec : ChangeSpec := { name := "fnExactLenS32", fn := fun _ => fun
  | [d] => { results := [.lit (.bool true)], args := [d] }
  | _ => none }
def fnExactLenS32Row : OpenClaim := { program := "ytofokedphkmfnaa", sum := "36eabc8008e0718efcebb26e913ad3f1746760ac73b7bc94d92f85d55004df6c", func := "loop.example/g00373/laws.FnExactLenS32", spec := "fnExactLenS32", apart := false }
def FnExactLenS32Said : Prop := fnExactLenS32Row.holds Try.pinned (OpenSpec.ofChange fnExactLenS32Spec)

/-- ITS FALSE NEIGHBOUR: 'it returns false'. Refute it at one input. -/
def fnExactLenS32Wrong : ChangeSpec := { name := "fnExactLenS32", fn := fun _ => fun
  | [d] => { results := [.lit (.bool false)], args := [d] }
  | _ => none }
def FnExactLenS32WrongFalsely : Prop := fnExactLenS32Row.holds Try.pinned (OpenSpec.ofChange fnExactLenS32Wrong)

/-- 'laws.FnExactLenU32': WHATEVER THE INPUT: true; the input reads as it did. -/
def fnExactLenU32Spec : ChangeSpec := { name := "fnExactLenU32", fn := fun _ => fun
  | [d] => { results := [.lit (.bool true)], args := [d] }
  | _ => none }
def fnExactLenU32Row : OpenClaim := { program := "ytofokedphkmfnaa", sum := "36eabc8008e0718efcebb26e913ad3f1746760ac73b7bc94d92f85d55004df6c", func := "loop.example/g00373/laws.FnExactLenU32", spec := "fnExactLenU32", apart := false }
def FnExactLenU32Said : Prop := fnExactLenU32Row.holds Try.pinned (OpenSpec.ofChange fnExactLenU32Spec)

/-- ITS FALSE NEIGHBOUR: 'it returns false'. Refute it at one input. -/
def fnExactLenU32Wrong : ChangeSpec := { name := "fnExactLenU32", fn := fun _ => fun
  | [d] => { results := [.lit (.bool false)], args := [d] }
  | _ => none }
def FnExactLenU32WrongFalsely : Prop := fnExactLenU32Row.holds Try.pinned (OpenSpec.ofChange fnExactLenU32Wrong)

/-- 'laws.FnExactPadU32': WHATEVER THE INPUT: true; the input reads as it did. -/
def fnExactPadU32Spec : ChangeSpec := { name := "fnExactPadU32", fn := fun _ => fun
  | [d1, d2] => { results := [.lit (.bool true)], args := [d1, d2] }
  | _ => none }
def fnExactPadU32Row : OpenClaim := { program := "ytofokedphkmfnaa", sum := "36eabc8008e0718efcebb26e913ad3f1746760ac73b7bc94d92f85d55004df6c", func := "loop.example/g00373/laws.FnExactPadU32", spec := "fnExactPadU32", apart := false }
def FnExactPadU32Said : Prop := fnExactPadU32Row.holds Try.pinned (OpenSpec.ofChange fnExactPadU32Spec)

/-- ITS FALSE NEIGHBOUR: 'it returns false'. Refute it at one input. -/
def fnExactPadU32Wrong : ChangeSpec := { name := "fnExactPadU32", fn := fun _ => fun
  | [d1, d2] => { results := [.lit (.bool false)], args := [d1, d2] }
  | _ => none }
def FnExactPadU32WrongFalsely : Prop := fnExactPadU32Row.holds Try.pinned (OpenSpec.ofChange fnExactPadU32Wrong)

/-- 'laws.FnExactTakeU32': WHATEVER THE INPUT: true; the input reads as it did. -/
def fnExactTakeU32Spec : ChangeSpec := { name := "fnExactTakeU32", fn := fun _ => fun
  | [d1, d2] => { results := [.lit (.bool true)], args := [d1, d2] }
  | _ => none }
def fnExactTakeU32Row : OpenClaim := { program := "ytofokedphkmfnaa", sum := "36eabc8008e0718efcebb26e913ad3f1746760ac73b7bc94d92f85d55004df6c", func := "loop.example/g00373/laws.FnExactTakeU32", spec := "fnExactTakeU32", apart := false }
def FnExactTakeU32Said : Prop := fnExactTakeU32Row.holds Try.pinned (OpenSpec.ofChange fnExactTakeU32Spec)

/-- ITS FALSE NEIGHBOUR: 'it returns false'. Refute it at one input. -/
def fnExactTakeU32Wrong : ChangeSpec := { name := "fnExactTakeU32", fn := fun _ => fun
  | [d1, d2] => { results := [.lit (.bool false)], args := [d1, d2] }
  | _ => none }
def FnExactTakeU32WrongFalsely : Prop := fnExactTakeU32Row.holds Try.pinned (OpenSpec.ofChange fnExactTakeU32Wrong)

/-- 'laws.FnExactTakeS32': WHATEVER THE INPUT: true; the input reads as it did. -/
def fnExactTakeS32Spec : ChangeSpec := { name := "fnExactTakeS32", fn := fun _ => fun
  | [d1, d2] => { results := [.lit (.bool true)], args := [d1, d2] }
  | _ => none }
def fnExactTakeS32Row : OpenClaim := { program := "ytofokedphkmfnaa", sum := "36eabc8008e0718efcebb26e913ad3f1746760ac73b7bc94d92f85d55004df6c", func := "loop.example/g00373/laws.FnExactTakeS32", spec := "fnExactTakeS32", apart := false }
def FnExactTakeS32Said : Prop := fnExactTakeS32Row.holds Try.pinned (OpenSpec.ofChange fnExactTakeS32Spec)

/-- ITS FALSE NEIGHBOUR: 'it returns false'. Refute it at one input. -/
def fnExactTakeS32Wrong : ChangeSpec := { name := "fnExactTakeS32", fn := fun _ => fun
  | [d1, d2] => { results := [.lit (.bool false)], args := [d1, d2] }
  | _ => none }
def FnExactTakeS32WrongFalsely : Prop := fnExactTakeS32Row.holds Try.pinned (OpenSpec.ofChange fnExactTakeS32Wrong)

/-- 'laws.FnExactIsLeast': WHATEVER THE INPUT: true; the input reads as it did. -/
def fnExactIsLeastSpec : ChangeSpec := { name := "fnExactIsLeast", fn := fun _ => fun
  | [d] => { results := [.lit (.bool true)], args := [d] }
  | _ => none }
def fnExactIsLeastRow : OpenClaim := { program := "ytofokedphkmfnaa", sum := "36eabc8008e0718efcebb26e913ad3f1746760ac73b7bc94d92f85d55004df6c", func := "loop.example/g00373/laws.FnExactIsLeast", spec := "fnExactIsLeast", apart := false }
def FnExactIsLeastSaid : Prop := fnExactIsLeastRow.holds Try.pinned (OpenSpec.ofChange fnExactIsLeastSpec)

/-- ITS FALSE NEIGHBOUR: 'it returns false'. Refute it at one input. -/
def fnExactIsLeastWrong : ChangeSpec := { name := "fnExactIsLeast", fn := fun _ => fun
  | [d] => { results := [.lit (.bool false)], args := [d] }
  | _ => none }
def FnExactIsLeastWrongFalsely : Prop := fnExactIsLeastRow.holds Try.pinned (OpenSpec.ofChange fnExactIsLeastWrong)

/-- 'laws.FnExactPutVec': WHATEVER THE INPUT: true; the input reads as it did. -/
def fnExactPutVecSpec : ChangeSpec := { name := "fnExactPutVec", fn := fun _ => fun
  | [d] => { results := [.lit (.bool true)], args := [d] }
  | _ => none }
def fnExactPutVecRow : OpenClaim := { program := "ytofokedphkmfnaa", sum := "36eabc8008e0718efcebb26e913ad3f1746760ac73b7bc94d92f85d55004df6c", func := "loop.example/g00373/laws.FnExactPutVec", spec := "fnExactPutVec", unfollowed := true, recurses := true, apart := false }
def FnExactPutVecSaid : Prop := fnExactPutVecRow.holds Try.pinned (OpenSpec.ofChange fnExactPutVecSpec)

/-- ITS FALSE NEIGHBOUR: 'it returns false'. Refute it at one input. -/
def fnExactPutVecWrong : ChangeSpec := { name := "fnExactPutVec", fn := fun _ => fun
  | [d] => { results := [.lit (.bool false)], args := [d] }
  | _ => none }
def FnExactPutVecWrongFalsely : Prop := fnExactPutVecRow.holds Try.pinned (OpenSpec.ofChange fnExactPutVecWrong)

/-- 'laws.FnExactTakeVec': WHATEVER THE INPUT: true; the input reads as it did. -/
def fnExactTakeVecSpec : ChangeSpec := { name := "fnExactTakeVec", fn := fun _ => fun
  | [d1, d2] => { results := [.lit (.bool true)], args := [d1, d2] }
  | _ => none }
def fnExactTakeVecRow : OpenClaim := { program := "ytofokedphkmfnaa", sum := "36eabc8008e0718efcebb26e913ad3f1746760ac73b7bc94d92f85d55004df6c", func := "loop.example/g00373/laws.FnExactTakeVec", spec := "fnExactTakeVec", apart := false }
def FnExactTakeVecSaid : Prop := fnExactTakeVecRow.holds Try.pinned (OpenSpec.ofChange fnExactTakeVecSpec)

/-- ITS FALSE NEIGHBOUR: 'it returns false'. Refute it at one input. -/
def fnExactTakeVecWrong : ChangeSpec := { name := "fnExactTakeVec", fn := fun _ => fun
  | [d1, d2] => { results := [.lit (.bool false)], args := [d1, d2] }
  | _ => none }
def FnExactTakeVecWrongFalsely : Prop := fnExactTakeVecRow.holds Try.pinned (OpenSpec.ofChange fnExactTakeVecWrong)

/-- 'laws.FnVecs': WHATEVER THE INPUT: true; the input reads as it did. -/
def fnVecsSpec : ChangeSpec := { name := "fnVecs", fn := fun _ => fun
  | [d1, d2] => { results := [.lit (.bool true)], args := [d1, d2] }
  | _ => none }
def fnVecsRow : OpenClaim := { program := "ytofokedphkmfnaa", sum := "36eabc8008e0718efcebb26e913ad3f1746760ac73b7bc94d92f85d55004df6c", func := "loop.example/g00373/laws.FnVecs", spec := "fnVecs", unfollowed := true, recurses := true, apart := false }
def FnVecsSaid : Prop := fnVecsRow.holds Try.pinned (OpenSpec.ofChange fnVecsSpec)

/-- ITS FALSE NEIGHBOUR: 'it returns false'. Refute it at one input. -/
def fnVecsWrong : ChangeSpec := { name := "fnVecs", fn := fun _ => fun
  | [d1, d2] => { results := [.lit (.bool false)], args := [d1, d2] }
  | _ => none }
def FnVecsWrongFalsely : Prop := fnVecsRow.holds Try.pinned (OpenSpec.ofChange fnVecsWrong)

/-- 'laws.FnLeb': WHATEVER THE INPUT: true; the input reads as it did. -/
def fnLebSpec : ChangeSpec := { name := "fnLeb", fn := fun _ => fun
  | [d1, d2] => { results := [.lit (.bool true)], args := [d1, d2] }
  | _ => none }
def fnLebRow : OpenClaim := { program := "ytofokedphkmfnaa", sum := "36eabc8008e0718efcebb26e913ad3f1746760ac73b7bc94d92f85d55004df6c", func := "loop.example/g00373/laws.FnLeb", spec := "fnLeb", apart := false }
def FnLebSaid : Prop := fnLebRow.holds Try.pinned (OpenSpec.ofChange fnLebSpec)

/-- ITS FALSE NEIGHBOUR: 'it returns false'. Refute it at one input. -/
def fnLebWrong : ChangeSpec := { name := "fnLeb", fn := fun _ => fun
  | [d1, d2] => { results := [.lit (.bool false)], args := [d1, d2] }
  | _ => none }
def FnLebWrongFalsely : Prop := fnLebRow.holds Try.pinned (OpenSpec.ofChange fnLebWrong)

/- THE SECOND FORM. 'bulk': how many values and letters a reading holds, each counted each time it is reached (what is shared counts as often as it is met; a slice's spare places count too). A statement '..UptoSaid' is the law's where the arguments, and the package variables that the reading takes, are together of bulk at most 1048576: NARROWER than '..Said'. Prove '..Said' where nothing that the law and all that it calls make is longer than what came in: it says more and counts as full. Else prove '..UptoSaid'. A law counts once. -/
mutual
def uptoBulk {H : Type} : DataW H → Nat
  | .lit (.string bytes) => bytes.length + 1
  | .lit _ => 1
  | .nil => 1
  | .ptr d => uptoBulk d + 1
  | .slice elems spare => uptoBulkAll elems + uptoBulkAll spare + 1
  | .agg parts => uptoBulkAll parts + 1
  | .iface _ d => uptoBulk d + 1
  | .map entries => uptoBulkEntries entries + 1
  | .held _ => 1
def uptoBulkAll {H : Type} : List (DataW H) → Nat
  | [] => 0
  | d :: r => uptoBulk d + uptoBulkAll r
def uptoBulkEntries {H : Type} : List (Lit × DataW H) → Nat
  | [] => 0
  | x :: r => uptoBulkEntry x + uptoBulkEntries r
def uptoBulkEntry {H : Type} : Lit × DataW H → Nat
  | (.string bytes, d) => bytes.length + uptoBulk d + 1
  | (_, d) => uptoBulk d + 1
 end
def uptoSmall : (H : Type) → List (DataW H) → Bool := fun _ ds => decide (uptoBulkAll ds ≤ 1048576)
def OpenSpec.upto (s : _root_.Go.ChangeSpec) : _root_.Go.OpenSpec := { _root_.Go.OpenSpec.ofChange s with cond := some uptoSmall }

/-- 'laws.FnExactConstants', WHERE WHAT IT READS IS OF BULK AT MOST 1048576: true; the input reads as it did. -/
def fnExactConstantsUptoRow : OpenClaim := { program := "ytofokedphkmfnaa", sum := "36eabc8008e0718efcebb26e913ad3f1746760ac73b7bc94d92f85d55004df6c", func := "loop.example/g00373/laws.FnExactConstants", spec := "fnExactConstants", apart := false, narrowed := true }
def FnExactConstantsUptoSaid : Prop := fnExactConstantsUptoRow.holds Try.pinned (OpenSpec.upto fnExactConstantsSpec)

/-- 'laws.FnExactPutS32', WHERE WHAT IT READS IS OF BULK AT MOST 1048576: true; the input reads as it did. -/
def fnExactPutS32UptoRow : OpenClaim := { program := "ytofokedphkmfnaa", sum := "36eabc8008e0718efcebb26e913ad3f1746760ac73b7bc94d92f85d55004df6c", func := "loop.example/g00373/laws.FnExactPutS32", spec := "fnExactPutS32", apart := false, narrowed := true }
def FnExactPutS32UptoSaid : Prop := fnExactPutS32UptoRow.holds Try.pinned (OpenSpec.upto fnExactPutS32Spec)

/-- 'laws.FnExactPutU32', WHERE WHAT IT READS IS OF BULK AT MOST 1048576: true; the input reads as it did. -/
def fnExactPutU32UptoRow : OpenClaim := { program := "ytofokedphkmfnaa", sum := "36eabc8008e0718efcebb26e913ad3f1746760ac73b7bc94d92f85d55004df6c", func := "loop.example/g00373/laws.FnExactPutU32", spec := "fnExactPutU32", apart := false, narrowed := true }
def FnExactPutU32UptoSaid : Prop := fnExactPutU32UptoRow.holds Try.pinned (OpenSpec.upto fnExactPutU32Spec)

/-- 'laws.FnExactLenS32', WHERE WHAT IT READS IS OF BULK AT MOST 1048576: true; the input reads as it did. -/
def fnExactLenS32UptoRow : OpenClaim := { program := "ytofokedphkmfnaa", sum := "36eabc8008e0718efcebb26e913ad3f1746760ac73b7bc94d92f85d55004df6c", func := "loop.example/g00373/laws.FnExactLenS32", spec := "fnExactLenS32", apart := false, narrowed := true }
def FnExactLenS32UptoSaid : Prop := fnExactLenS32UptoRow.holds Try.pinned (OpenSpec.upto fnExactLenS32Spec)

/-- 'laws.FnExactLenU32', WHERE WHAT IT READS IS OF BULK AT MOST 1048576: true; the input reads as it did. -/
def fnExactLenU32UptoRow : OpenClaim := { program := "ytofokedphkmfnaa", sum := "36eabc8008e0718efcebb26e913ad3f1746760ac73b7bc94d92f85d55004df6c", func := "loop.example/g00373/laws.FnExactLenU32", spec := "fnExactLenU32", apart := false, narrowed := true }
def FnExactLenU32UptoSaid : Prop := fnExactLenU32UptoRow.holds Try.pinned (OpenSpec.upto fnExactLenU32Spec)

/-- 'laws.FnExactPadU32', WHERE WHAT IT READS IS OF BULK AT MOST 1048576: true; the input reads as it did. -/
def fnExactPadU32UptoRow : OpenClaim := { program := "ytofokedphkmfnaa", sum := "36eabc8008e0718efcebb26e913ad3f1746760ac73b7bc94d92f85d55004df6c", func := "loop.example/g00373/laws.FnExactPadU32", spec := "fnExactPadU32", apart := false, narrowed := true }
def FnExactPadU32UptoSaid : Prop := fnExactPadU32UptoRow.holds Try.pinned (OpenSpec.upto fnExactPadU32Spec)

/-- 'laws.FnExactTakeU32', WHERE WHAT IT READS IS OF BULK AT MOST 1048576: true; the input reads as it did. -/
def fnExactTakeU32UptoRow : OpenClaim := { program := "ytofokedphkmfnaa", sum := "36eabc8008e0718efcebb26e913ad3f1746760ac73b7bc94d92f85d55004df6c", func := "loop.example/g00373/laws.FnExactTakeU32", spec := "fnExactTakeU32", apart := false, narrowed := true }
def FnExactTakeU32UptoSaid : Prop := fnExactTakeU32UptoRow.holds Try.pinned (OpenSpec.upto fnExactTakeU32Spec)

/-- 'laws.FnExactTakeS32', WHERE WHAT IT READS IS OF BULK AT MOST 1048576: true; the input reads as it did. -/
def fnExactTakeS32UptoRow : OpenClaim := { program := "ytofokedphkmfnaa", sum := "36eabc8008e0718efcebb26e913ad3f1746760ac73b7bc94d92f85d55004df6c", func := "loop.example/g00373/laws.FnExactTakeS32", spec := "fnExactTakeS32", apart := false, narrowed := true }
def FnExactTakeS32UptoSaid : Prop := fnExactTakeS32UptoRow.holds Try.pinned (OpenSpec.upto fnExactTakeS32Spec)

/-- 'laws.FnExactIsLeast', WHERE WHAT IT READS IS OF BULK AT MOST 1048576: true; the input reads as it did. -/
def fnExactIsLeastUptoRow : OpenClaim := { program := "ytofokedphkmfnaa", sum := "36eabc8008e0718efcebb26e913ad3f1746760ac73b7bc94d92f85d55004df6c", func := "loop.example/g00373/laws.FnExactIsLeast", spec := "fnExactIsLeast", apart := false, narrowed := true }
def FnExactIsLeastUptoSaid : Prop := fnExactIsLeastUptoRow.holds Try.pinned (OpenSpec.upto fnExactIsLeastSpec)

/-- 'laws.FnExactPutVec', WHERE WHAT IT READS IS OF BULK AT MOST 1048576: true; the input reads as it did. -/
def fnExactPutVecUptoRow : OpenClaim := { program := "ytofokedphkmfnaa", sum := "36eabc8008e0718efcebb26e913ad3f1746760ac73b7bc94d92f85d55004df6c", func := "loop.example/g00373/laws.FnExactPutVec", spec := "fnExactPutVec", unfollowed := true, recurses := true, apart := false, narrowed := true }
def FnExactPutVecUptoSaid : Prop := fnExactPutVecUptoRow.holds Try.pinned (OpenSpec.upto fnExactPutVecSpec)

/-- 'laws.FnExactTakeVec', WHERE WHAT IT READS IS OF BULK AT MOST 1048576: true; the input reads as it did. -/
def fnExactTakeVecUptoRow : OpenClaim := { program := "ytofokedphkmfnaa", sum := "36eabc8008e0718efcebb26e913ad3f1746760ac73b7bc94d92f85d55004df6c", func := "loop.example/g00373/laws.FnExactTakeVec", spec := "fnExactTakeVec", apart := false, narrowed := true }
def FnExactTakeVecUptoSaid : Prop := fnExactTakeVecUptoRow.holds Try.pinned (OpenSpec.upto fnExactTakeVecSpec)

/-- 'laws.FnVecs', WHERE WHAT IT READS IS OF BULK AT MOST 1048576: true; the input reads as it did. -/
def fnVecsUptoRow : OpenClaim := { program := "ytofokedphkmfnaa", sum := "36eabc8008e0718efcebb26e913ad3f1746760ac73b7bc94d92f85d55004df6c", func := "loop.example/g00373/laws.FnVecs", spec := "fnVecs", unfollowed := true, recurses := true, apart := false, narrowed := true }
def FnVecsUptoSaid : Prop := fnVecsUptoRow.holds Try.pinned (OpenSpec.upto fnVecsSpec)

/-- 'laws.FnLeb', WHERE WHAT IT READS IS OF BULK AT MOST 1048576: true; the input reads as it did. -/
def fnLebUptoRow : OpenClaim := { program := "ytofokedphkmfnaa", sum := "36eabc8008e0718efcebb26e913ad3f1746760ac73b7bc94d92f85d55004df6c", func := "loop.example/g00373/laws.FnLeb", spec := "fnLeb", apart := false, narrowed := true }
def FnLebUptoSaid : Prop := fnLebUptoRow.holds Try.pinned (OpenSpec.upto fnLebSpec)

end Rows
end Go.Proofs.Ytofokedphkmfnaa
