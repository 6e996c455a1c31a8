/-
  No cell of these rows narrows 'for every input' (looked for: loops, veiled, ifaces, maps, wideKeys, modest, calm, conditions, laid).
  DERIVED. THE GIVEN ROWS OF THIS SEAT. 6 by the template 'for every input the law returns true; each argument reads behind the call as it read before'; 0 by the template 'total and deterministic' (their statements: YthgkhfhfahifmaaTotals.lean).
  GIVEN WITH THE SEED: the statements are not yours to turn. If you find one false, say at which input.
  Laid BY PROGRAM, IN A SANDBOX (cutbox-rows.mjs): the forced cells as the released guide's own fill.sh prints them over the translation 27e47d17bbdc6bff… (all of the seat's roots in one cut). By AI agents, Wed Nov 11 2026. No macro, syntax, notation, axiom, sorry.
-/
import Derived.Test.YthgkhfhfahifmaaChecked
import GoSem.Claim
import GoSem.ClaimJoined
import GoSem.ClaimMapViews
import Derived.JoinedTies
import Derived.KernelRfl
namespace Go.Proofs.Ythgkhfhfahifmaa
/- THE CELL 'sum', in the pinned program and in every row, IS THE sha256 OF THE DUMP (.gsa) THAT YthgkhfhfahifmaaProg.lean LOADS. Nothing in Lean hashes anything: it is a label: what it is worth is what the hold of that sum in a sandbox is worth. -/
noncomputable def Try.pinned : Pinned := { name := "ythgkhfhfahifmaa", sum := "27e47d17bbdc6bffb3f50b228cca6aa8ac008f63c35c7ee0aa729f93d56c615d", checked := Try.checked }
namespace Rows
def none {H : Type} : Left H := { results := [], args := [] }

/-- 'laws.FnExactGoodFlow': WHATEVER THE INPUT: true; the input reads as it did. -/
def fnExactGoodFlowSpec : ChangeSpec := { name := "fnExactGoodFlow", fn := fun _ => fun
  | [d] => { results := [.lit (.bool true)], args := [d] }
  | _ => none }
def fnExactGoodFlowRow : OpenClaim := { program := "ythgkhfhfahifmaa", sum := "27e47d17bbdc6bffb3f50b228cca6aa8ac008f63c35c7ee0aa729f93d56c615d", func := "loop.example/g00373/laws.FnExactGoodFlow", spec := "fnExactGoodFlow", unfollowed := true, recurses := true, apart := false }
def FnExactGoodFlowSaid : Prop := fnExactGoodFlowRow.holds Try.pinned (OpenSpec.ofChange fnExactGoodFlowSpec)

/-- ITS FALSE NEIGHBOUR: 'it returns false'. Refute it at one input. -/
def fnExactGoodFlowWrong : ChangeSpec := { name := "fnExactGoodFlow", fn := fun _ => fun
  | [d] => { results := [.lit (.bool false)], args := [d] }
  | _ => none }
def FnExactGoodFlowWrongFalsely : Prop := fnExactGoodFlowRow.holds Try.pinned (OpenSpec.ofChange fnExactGoodFlowWrong)

/-- 'laws.FnExactGraphOf': WHATEVER THE INPUT: true; the input reads as it did. -/
def fnExactGraphOfSpec : ChangeSpec := { name := "fnExactGraphOf", fn := fun _ => fun
  | [d] => { results := [.lit (.bool true)], args := [d] }
  | _ => none }
def fnExactGraphOfRow : OpenClaim := { program := "ythgkhfhfahifmaa", sum := "27e47d17bbdc6bffb3f50b228cca6aa8ac008f63c35c7ee0aa729f93d56c615d", func := "loop.example/g00373/laws.FnExactGraphOf", spec := "fnExactGraphOf", unfollowed := true, recurses := true, apart := false }
def FnExactGraphOfSaid : Prop := fnExactGraphOfRow.holds Try.pinned (OpenSpec.ofChange fnExactGraphOfSpec)

/-- ITS FALSE NEIGHBOUR: 'it returns false'. Refute it at one input. -/
def fnExactGraphOfWrong : ChangeSpec := { name := "fnExactGraphOf", fn := fun _ => fun
  | [d] => { results := [.lit (.bool false)], args := [d] }
  | _ => none }
def FnExactGraphOfWrongFalsely : Prop := fnExactGraphOfRow.holds Try.pinned (OpenSpec.ofChange fnExactGraphOfWrong)

/-- 'laws.FnExactReachIn': WHATEVER THE INPUT: true; the input reads as it did. -/
def fnExactReachInSpec : ChangeSpec := { name := "fnExactReachIn", fn := fun _ => fun
  | [d] => { results := [.lit (.bool true)], args := [d] }
  | _ => none }
def fnExactReachInRow : OpenClaim := { program := "ythgkhfhfahifmaa", sum := "27e47d17bbdc6bffb3f50b228cca6aa8ac008f63c35c7ee0aa729f93d56c615d", func := "loop.example/g00373/laws.FnExactReachIn", spec := "fnExactReachIn", unfollowed := true, recurses := true, apart := false }
def FnExactReachInSaid : Prop := fnExactReachInRow.holds Try.pinned (OpenSpec.ofChange fnExactReachInSpec)

/-- ITS FALSE NEIGHBOUR: 'it returns false'. Refute it at one input. -/
def fnExactReachInWrong : ChangeSpec := { name := "fnExactReachIn", fn := fun _ => fun
  | [d] => { results := [.lit (.bool false)], args := [d] }
  | _ => none }
def FnExactReachInWrongFalsely : Prop := fnExactReachInRow.holds Try.pinned (OpenSpec.ofChange fnExactReachInWrong)

/-- 'laws.FnExactPredsOf': WHATEVER THE INPUT: true; the input reads as it did. -/
def fnExactPredsOfSpec : ChangeSpec := { name := "fnExactPredsOf", fn := fun _ => fun
  | [d] => { results := [.lit (.bool true)], args := [d] }
  | _ => none }
def fnExactPredsOfRow : OpenClaim := { program := "ythgkhfhfahifmaa", sum := "27e47d17bbdc6bffb3f50b228cca6aa8ac008f63c35c7ee0aa729f93d56c615d", func := "loop.example/g00373/laws.FnExactPredsOf", spec := "fnExactPredsOf", unfollowed := true, recurses := true, apart := false }
def FnExactPredsOfSaid : Prop := fnExactPredsOfRow.holds Try.pinned (OpenSpec.ofChange fnExactPredsOfSpec)

/-- ITS FALSE NEIGHBOUR: 'it returns false'. Refute it at one input. -/
def fnExactPredsOfWrong : ChangeSpec := { name := "fnExactPredsOf", fn := fun _ => fun
  | [d] => { results := [.lit (.bool false)], args := [d] }
  | _ => none }
def FnExactPredsOfWrongFalsely : Prop := fnExactPredsOfRow.holds Try.pinned (OpenSpec.ofChange fnExactPredsOfWrong)

/-- 'laws.FnExactTrimFlow': WHATEVER THE INPUT: true; the input reads as it did. -/
def fnExactTrimFlowSpec : ChangeSpec := { name := "fnExactTrimFlow", fn := fun _ => fun
  | [d] => { results := [.lit (.bool true)], args := [d] }
  | _ => none }
def fnExactTrimFlowRow : OpenClaim := { program := "ythgkhfhfahifmaa", sum := "27e47d17bbdc6bffb3f50b228cca6aa8ac008f63c35c7ee0aa729f93d56c615d", func := "loop.example/g00373/laws.FnExactTrimFlow", spec := "fnExactTrimFlow", unfollowed := true, recurses := true, apart := false }
def FnExactTrimFlowSaid : Prop := fnExactTrimFlowRow.holds Try.pinned (OpenSpec.ofChange fnExactTrimFlowSpec)

/-- ITS FALSE NEIGHBOUR: 'it returns false'. Refute it at one input. -/
def fnExactTrimFlowWrong : ChangeSpec := { name := "fnExactTrimFlow", fn := fun _ => fun
  | [d] => { results := [.lit (.bool false)], args := [d] }
  | _ => none }
def FnExactTrimFlowWrongFalsely : Prop := fnExactTrimFlowRow.holds Try.pinned (OpenSpec.ofChange fnExactTrimFlowWrong)

/-- 'laws.FnExactJoinFlow': WHATEVER THE INPUT: true; the input reads as it did. -/
def fnExactJoinFlowSpec : ChangeSpec := { name := "fnExactJoinFlow", fn := fun _ => fun
  | [d] => { results := [.lit (.bool true)], args := [d] }
  | _ => none }
def fnExactJoinFlowRow : OpenClaim := { program := "ythgkhfhfahifmaa", sum := "27e47d17bbdc6bffb3f50b228cca6aa8ac008f63c35c7ee0aa729f93d56c615d", func := "loop.example/g00373/laws.FnExactJoinFlow", spec := "fnExactJoinFlow", unfollowed := true, recurses := true, apart := false }
def FnExactJoinFlowSaid : Prop := fnExactJoinFlowRow.holds Try.pinned (OpenSpec.ofChange fnExactJoinFlowSpec)

/-- ITS FALSE NEIGHBOUR: 'it returns false'. Refute it at one input. -/
def fnExactJoinFlowWrong : ChangeSpec := { name := "fnExactJoinFlow", fn := fun _ => fun
  | [d] => { results := [.lit (.bool false)], args := [d] }
  | _ => none }
def FnExactJoinFlowWrongFalsely : Prop := fnExactJoinFlowRow.holds Try.pinned (OpenSpec.ofChange fnExactJoinFlowWrong)

/- THE SECOND FORM. 'bulk': how many values and letters a reading holds, each counted each time it is reached (what is shared counts as often as it is met; a slice's spare places count too). A statement '..UptoSaid' is the law's where the arguments, and the package variables that the reading takes, are together of bulk at most 1048576: NARROWER than '..Said'. Prove '..Said' where nothing that the law and all that it calls make is longer than what came in: it says more and counts as full. Else prove '..UptoSaid'. A law counts once. -/
mutual
def uptoBulk {H : Type} : DataW H → Nat
  | .lit (.string bytes) => bytes.length + 1
  | .lit _ => 1
  | .nil => 1
  | .ptr d => uptoBulk d + 1
  | .slice elems spare => uptoBulkAll elems + uptoBulkAll spare + 1
  | .agg parts => uptoBulkAll parts + 1
  | .iface _ d => uptoBulk d + 1
  | .map entries => uptoBulkEntries entries + 1
  | .held _ => 1
def uptoBulkAll {H : Type} : List (DataW H) → Nat
  | [] => 0
  | d :: r => uptoBulk d + uptoBulkAll r
def uptoBulkEntries {H : Type} : List (Lit × DataW H) → Nat
  | [] => 0
  | x :: r => uptoBulkEntry x + uptoBulkEntries r
def uptoBulkEntry {H : Type} : Lit × DataW H → Nat
  | (.string bytes, d) => bytes.length + uptoBulk d + 1
  | (_, d) => uptoBulk d + 1
 end
def uptoSmall : (H : Type) → List (DataW H) → Bool := fun _ ds => decide (uptoBulkAll ds ≤ 1048576)
def OpenSpec.upto (s : _root_.Go.ChangeSpec) : _root_.Go.OpenSpec := { _root_.Go.OpenSpec.ofChange s with cond := some uptoSmall }

/-- 'laws.FnExactGoodFlow', WHERE WHAT IT READS IS OF BULK AT MOST 1048576: true; the input reads as it did. -/
def fnExactGoodFlowUptoRow : OpenClaim := { program := "ythgkhfhfahifmaa", sum := "27e47d17bbdc6bffb3f50b228cca6aa8ac008f63c35c7ee0aa729f93d56c615d", func := "loop.example/g00373/laws.FnExactGoodFlow", spec := "fnExactGoodFlow", unfollowed := true, recurses := true, apart := false, narrowed := true }
def FnExactGoodFlowUptoSaid : Prop := fnExactGoodFlowUptoRow.holds Try.pinned (OpenSpec.upto fnExactGoodFlowSpec)

/-- 'laws.FnExactGraphOf', WHERE WHAT IT READS IS OF BULK AT MOST 1048576: true; the input reads as it did. -/
def fnExactGraphOfUptoRow : OpenClaim := { program := "ythgkhfhfahifmaa", sum := "27e47d17bbdc6bffb3f50b228cca6aa8ac008f63c35c7ee0aa729f93d56c615d", func := "loop.example/g00373/laws.FnExactGraphOf", spec := "fnExactGraphOf", unfollowed := true, recurses := true, apart := false, narrowed := true }
def FnExactGraphOfUptoSaid : Prop := fnExactGraphOfUptoRow.holds Try.pinned (OpenSpec.upto fnExactGraphOfSpec)

/-- 'laws.FnExactReachIn', WHERE WHAT IT READS IS OF BULK AT MOST 1048576: true; the input reads as it did. -/
def fnExactReachInUptoRow : OpenClaim := { program := "ythgkhfhfahifmaa", sum := "27e47d17bbdc6bffb3f50b228cca6aa8ac008f63c35c7ee0aa729f93d56c615d", func := "loop.example/g00373/laws.FnExactReachIn", spec := "fnExactReachIn", unfollowed := true, recurses := true, apart := false, narrowed := true }
def FnExactReachInUptoSaid : Prop := fnExactReachInUptoRow.holds Try.pinned (OpenSpec.upto fnExactReachInSpec)

/-- 'laws.FnExactPredsOf', WHERE WHAT IT READS IS OF BULK AT MOST 1048576: true; the input reads as it did. -/
def fnExactPredsOfUptoRow : OpenClaim := { program := "ythgkhfhfahifmaa", sum := "27e47d17bbdc6bffb3f50b228cca6aa8ac008f63c35c7ee0aa729f93d56c615d", func := "loop.example/g00373/laws.FnExactPredsOf", spec := "fnExactPredsOf", unfollowed := true, recurses := true, apart := false, narrowed := true }
def FnExactPredsOfUptoSaid : Prop := fnExactPredsOfUptoRow.holds Try.pinned (OpenSpec.upto fnExactPredsOfSpec)

/-- 'laws.FnExactTrimFlow', WHERE WHAT IT READS IS OF BULK AT MOST 1048576: true; the input reads as it did. -/
def fnExactTrimFlowUptoRow : OpenClaim := { program := "ythgkhfhfahifmaa", sum := "27e47d17bbdc6bffb3f50b228cca6aa8ac008f63c35c7ee0aa729f93d56c615d", func := "loop.example/g00373/laws.FnExactTrimFlow", spec := "fnExactTrimFlow", unfollowed := true, recurses := true, apart := false, narrowed := true }
def FnExactTrimFlowUptoSaid : Prop := fnExactTrimFlowUptoRow.holds Try.pinned (OpenSpec.upto fnExactTrimFlowSpec)

/-- 'laws.FnExactJoinFlow', WHERE WHAT IT READS IS OF BULK AT MOST 1048576: true; the input reads as it did. -/
def fnExactJoinFlowUptoRow : OpenClaim := { program := "ythgkhfhfahifmaa", sum := "27e47d17bbdc6bffb3f50b228cca6aa8ac008f63c35c7ee0aa729f93d56c615d", func := "loop.example/g00373/laws.FnExactJoinFlow", spec := "fnExactJoinFlow", unfollowed := true, recurses := true, apart := false, narrowed := true }
def FnExactJoinFlowUptoSaid : Prop := fnExactJoinFlowUptoRow.holds Try.pinned (OpenSpec.upto fnExactJoinFlowSpec)

end Rows
end Go.Proofs.Ythgkhfhfahifmaa
