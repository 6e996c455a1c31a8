/-
  No cell of these rows narrows 'for every input' (looked for: loops, veiled, ifaces, maps, wideKeys, modest, calm, conditions, laid).
  DERIVED. THE GIVEN ROWS OF THIS SEAT. 11 by the template 'for every input the law returns true; each argument reads behind the call as it read before'; 0 by the template 'total and deterministic' (their statements: YtmljikgegclolaaTotals.lean).
  GIVEN WITH THE SEED: the statements are not yours to turn. If you find one false, say at which input.
  Laid BY PROGRAM, IN A SANDBOX (cutbox-rows.mjs): the forced cells as the released guide's own fill.sh prints them over the translation f5a9036cd86ba415… (all of the seat's roots in one cut). By AI agents, Wed Nov 11 2026. No macro, syntax, notation, axiom, sorry.
-/
import Derived.Test.YtmljikgegclolaaChecked
import GoSem.Claim
import GoSem.ClaimJoined
import GoSem.ClaimMapViews
import Derived.JoinedTies
import Derived.KernelRfl
namespace Go.Proofs.Ytmljikgegclolaa
/- THE CELL 'sum', in the pinned program and in every row, IS THE sha256 OF THE DUMP (.gsa) THAT YtmljikgegclolaaProg.lean LOADS. Nothing in Lean hashes anything: it is a label: what it is worth is what the hold of that sum in a sandbox is worth. -/
noncomputable def Try.pinned : Pinned := { name := "ytmljikgegclolaa", sum := "f5a9036cd86ba415c58eeeb9fc0361c1de570ee8645dcec6575f03c258aa7b4a", checked := Try.checked }
namespace Rows
def none {H : Type} : Left H := { results := [], args := [] }

/-- 'laws.FnExactGoodSteps': WHATEVER THE INPUT: true; the input reads as it did. -/
def fnExactGoodStepsSpec : ChangeSpec := { name := "fnExactGoodSteps", fn := fun _ => fun
  | [d] => { results := [.lit (.bool true)], args := [d] }
  | _ => none }
def fnExactGoodStepsRow : OpenClaim := { program := "ytmljikgegclolaa", sum := "f5a9036cd86ba415c58eeeb9fc0361c1de570ee8645dcec6575f03c258aa7b4a", func := "loop.example/g00373/laws.FnExactGoodSteps", spec := "fnExactGoodSteps", unfollowed := true, recurses := true, apart := false }
def FnExactGoodStepsSaid : Prop := fnExactGoodStepsRow.holds Try.pinned (OpenSpec.ofChange fnExactGoodStepsSpec)

/-- ITS FALSE NEIGHBOUR: 'it returns false'. Refute it at one input. -/
def fnExactGoodStepsWrong : ChangeSpec := { name := "fnExactGoodSteps", fn := fun _ => fun
  | [d] => { results := [.lit (.bool false)], args := [d] }
  | _ => none }
def FnExactGoodStepsWrongFalsely : Prop := fnExactGoodStepsRow.holds Try.pinned (OpenSpec.ofChange fnExactGoodStepsWrong)

/-- 'laws.FnExactEndsOf': WHATEVER THE INPUT: true; the input reads as it did. -/
def fnExactEndsOfSpec : ChangeSpec := { name := "fnExactEndsOf", fn := fun _ => fun
  | [d] => { results := [.lit (.bool true)], args := [d] }
  | _ => none }
def fnExactEndsOfRow : OpenClaim := { program := "ytmljikgegclolaa", sum := "f5a9036cd86ba415c58eeeb9fc0361c1de570ee8645dcec6575f03c258aa7b4a", func := "loop.example/g00373/laws.FnExactEndsOf", spec := "fnExactEndsOf", unfollowed := true, recurses := true, apart := false }
def FnExactEndsOfSaid : Prop := fnExactEndsOfRow.holds Try.pinned (OpenSpec.ofChange fnExactEndsOfSpec)

/-- ITS FALSE NEIGHBOUR: 'it returns false'. Refute it at one input. -/
def fnExactEndsOfWrong : ChangeSpec := { name := "fnExactEndsOf", fn := fun _ => fun
  | [d] => { results := [.lit (.bool false)], args := [d] }
  | _ => none }
def FnExactEndsOfWrongFalsely : Prop := fnExactEndsOfRow.holds Try.pinned (OpenSpec.ofChange fnExactEndsOfWrong)

/-- 'laws.FnExactTargetOf': WHATEVER THE INPUT: true; the input reads as it did. -/
def fnExactTargetOfSpec : ChangeSpec := { name := "fnExactTargetOf", fn := fun _ => fun
  | [d1, d2, d3] => { results := [.lit (.bool true)], args := [d1, d2, d3] }
  | _ => none }
def fnExactTargetOfRow : OpenClaim := { program := "ytmljikgegclolaa", sum := "f5a9036cd86ba415c58eeeb9fc0361c1de570ee8645dcec6575f03c258aa7b4a", func := "loop.example/g00373/laws.FnExactTargetOf", spec := "fnExactTargetOf", unfollowed := true, recurses := true, apart := false }
def FnExactTargetOfSaid : Prop := fnExactTargetOfRow.holds Try.pinned (OpenSpec.ofChange fnExactTargetOfSpec)

/-- ITS FALSE NEIGHBOUR: 'it returns false'. Refute it at one input. -/
def fnExactTargetOfWrong : ChangeSpec := { name := "fnExactTargetOf", fn := fun _ => fun
  | [d1, d2, d3] => { results := [.lit (.bool false)], args := [d1, d2, d3] }
  | _ => none }
def FnExactTargetOfWrongFalsely : Prop := fnExactTargetOfRow.holds Try.pinned (OpenSpec.ofChange fnExactTargetOfWrong)

/-- 'laws.FnExactDepthsOf': WHATEVER THE INPUT: true; the input reads as it did. -/
def fnExactDepthsOfSpec : ChangeSpec := { name := "fnExactDepthsOf", fn := fun _ => fun
  | [d] => { results := [.lit (.bool true)], args := [d] }
  | _ => none }
def fnExactDepthsOfRow : OpenClaim := { program := "ytmljikgegclolaa", sum := "f5a9036cd86ba415c58eeeb9fc0361c1de570ee8645dcec6575f03c258aa7b4a", func := "loop.example/g00373/laws.FnExactDepthsOf", spec := "fnExactDepthsOf", unfollowed := true, recurses := true, apart := false }
def FnExactDepthsOfSaid : Prop := fnExactDepthsOfRow.holds Try.pinned (OpenSpec.ofChange fnExactDepthsOfSpec)

/-- ITS FALSE NEIGHBOUR: 'it returns false'. Refute it at one input. -/
def fnExactDepthsOfWrong : ChangeSpec := { name := "fnExactDepthsOf", fn := fun _ => fun
  | [d] => { results := [.lit (.bool false)], args := [d] }
  | _ => none }
def FnExactDepthsOfWrongFalsely : Prop := fnExactDepthsOfRow.holds Try.pinned (OpenSpec.ofChange fnExactDepthsOfWrong)

/-- 'laws.FnExactStepsBytes': WHATEVER THE INPUT: true; the input reads as it did. -/
def fnExactStepsBytesSpec : ChangeSpec := { name := "fnExactStepsBytes", fn := fun _ => fun
  | [d] => { results := [.lit (.bool true)], args := [d] }
  | _ => none }
def fnExactStepsBytesRow : OpenClaim := { program := "ytmljikgegclolaa", sum := "f5a9036cd86ba415c58eeeb9fc0361c1de570ee8645dcec6575f03c258aa7b4a", func := "loop.example/g00373/laws.FnExactStepsBytes", spec := "fnExactStepsBytes", unfollowed := true, recurses := true, apart := false }
def FnExactStepsBytesSaid : Prop := fnExactStepsBytesRow.holds Try.pinned (OpenSpec.ofChange fnExactStepsBytesSpec)

/-- ITS FALSE NEIGHBOUR: 'it returns false'. Refute it at one input. -/
def fnExactStepsBytesWrong : ChangeSpec := { name := "fnExactStepsBytes", fn := fun _ => fun
  | [d] => { results := [.lit (.bool false)], args := [d] }
  | _ => none }
def FnExactStepsBytesWrongFalsely : Prop := fnExactStepsBytesRow.holds Try.pinned (OpenSpec.ofChange fnExactStepsBytesWrong)

/-- 'laws.FnExactReadSteps': WHATEVER THE INPUT: true; the input reads as it did. -/
def fnExactReadStepsSpec : ChangeSpec := { name := "fnExactReadSteps", fn := fun _ => fun
  | [d] => { results := [.lit (.bool true)], args := [d] }
  | _ => none }
def fnExactReadStepsRow : OpenClaim := { program := "ytmljikgegclolaa", sum := "f5a9036cd86ba415c58eeeb9fc0361c1de570ee8645dcec6575f03c258aa7b4a", func := "loop.example/g00373/laws.FnExactReadSteps", spec := "fnExactReadSteps", unfollowed := true, recurses := true, apart := false }
def FnExactReadStepsSaid : Prop := fnExactReadStepsRow.holds Try.pinned (OpenSpec.ofChange fnExactReadStepsSpec)

/-- ITS FALSE NEIGHBOUR: 'it returns false'. Refute it at one input. -/
def fnExactReadStepsWrong : ChangeSpec := { name := "fnExactReadSteps", fn := fun _ => fun
  | [d] => { results := [.lit (.bool false)], args := [d] }
  | _ => none }
def FnExactReadStepsWrongFalsely : Prop := fnExactReadStepsRow.holds Try.pinned (OpenSpec.ofChange fnExactReadStepsWrong)

/-- 'laws.FnExactValidSteps': WHATEVER THE INPUT: true; the input reads as it did. -/
def fnExactValidStepsSpec : ChangeSpec := { name := "fnExactValidSteps", fn := fun _ => fun
  | [d] => { results := [.lit (.bool true)], args := [d] }
  | _ => none }
def fnExactValidStepsRow : OpenClaim := { program := "ytmljikgegclolaa", sum := "f5a9036cd86ba415c58eeeb9fc0361c1de570ee8645dcec6575f03c258aa7b4a", func := "loop.example/g00373/laws.FnExactValidSteps", spec := "fnExactValidSteps", unfollowed := true, recurses := true, apart := false }
def FnExactValidStepsSaid : Prop := fnExactValidStepsRow.holds Try.pinned (OpenSpec.ofChange fnExactValidStepsSpec)

/-- ITS FALSE NEIGHBOUR: 'it returns false'. Refute it at one input. -/
def fnExactValidStepsWrong : ChangeSpec := { name := "fnExactValidSteps", fn := fun _ => fun
  | [d] => { results := [.lit (.bool false)], args := [d] }
  | _ => none }
def FnExactValidStepsWrongFalsely : Prop := fnExactValidStepsRow.holds Try.pinned (OpenSpec.ofChange fnExactValidStepsWrong)

/-- 'laws.FnExactMostHigh': WHATEVER THE INPUT: true; the input reads as it did. -/
def fnExactMostHighSpec : ChangeSpec := { name := "fnExactMostHigh", fn := fun _ => fun
  | [d] => { results := [.lit (.bool true)], args := [d] }
  | _ => none }
def fnExactMostHighRow : OpenClaim := { program := "ytmljikgegclolaa", sum := "f5a9036cd86ba415c58eeeb9fc0361c1de570ee8645dcec6575f03c258aa7b4a", func := "loop.example/g00373/laws.FnExactMostHigh", spec := "fnExactMostHigh", unfollowed := true, recurses := true, apart := false }
def FnExactMostHighSaid : Prop := fnExactMostHighRow.holds Try.pinned (OpenSpec.ofChange fnExactMostHighSpec)

/-- ITS FALSE NEIGHBOUR: 'it returns false'. Refute it at one input. -/
def fnExactMostHighWrong : ChangeSpec := { name := "fnExactMostHigh", fn := fun _ => fun
  | [d] => { results := [.lit (.bool false)], args := [d] }
  | _ => none }
def FnExactMostHighWrongFalsely : Prop := fnExactMostHighRow.holds Try.pinned (OpenSpec.ofChange fnExactMostHighWrong)

/-- 'laws.FnExactHeightsOf': WHATEVER THE INPUT: true; the input reads as it did. -/
def fnExactHeightsOfSpec : ChangeSpec := { name := "fnExactHeightsOf", fn := fun _ => fun
  | [d] => { results := [.lit (.bool true)], args := [d] }
  | _ => none }
def fnExactHeightsOfRow : OpenClaim := { program := "ytmljikgegclolaa", sum := "f5a9036cd86ba415c58eeeb9fc0361c1de570ee8645dcec6575f03c258aa7b4a", func := "loop.example/g00373/laws.FnExactHeightsOf", spec := "fnExactHeightsOf", unfollowed := true, recurses := true, apart := false }
def FnExactHeightsOfSaid : Prop := fnExactHeightsOfRow.holds Try.pinned (OpenSpec.ofChange fnExactHeightsOfSpec)

/-- ITS FALSE NEIGHBOUR: 'it returns false'. Refute it at one input. -/
def fnExactHeightsOfWrong : ChangeSpec := { name := "fnExactHeightsOf", fn := fun _ => fun
  | [d] => { results := [.lit (.bool false)], args := [d] }
  | _ => none }
def FnExactHeightsOfWrongFalsely : Prop := fnExactHeightsOfRow.holds Try.pinned (OpenSpec.ofChange fnExactHeightsOfWrong)

/-- 'laws.FnExactReachesOf': WHATEVER THE INPUT: true; the input reads as it did. -/
def fnExactReachesOfSpec : ChangeSpec := { name := "fnExactReachesOf", fn := fun _ => fun
  | [d] => { results := [.lit (.bool true)], args := [d] }
  | _ => none }
def fnExactReachesOfRow : OpenClaim := { program := "ytmljikgegclolaa", sum := "f5a9036cd86ba415c58eeeb9fc0361c1de570ee8645dcec6575f03c258aa7b4a", func := "loop.example/g00373/laws.FnExactReachesOf", spec := "fnExactReachesOf", unfollowed := true, recurses := true, apart := false }
def FnExactReachesOfSaid : Prop := fnExactReachesOfRow.holds Try.pinned (OpenSpec.ofChange fnExactReachesOfSpec)

/-- ITS FALSE NEIGHBOUR: 'it returns false'. Refute it at one input. -/
def fnExactReachesOfWrong : ChangeSpec := { name := "fnExactReachesOf", fn := fun _ => fun
  | [d] => { results := [.lit (.bool false)], args := [d] }
  | _ => none }
def FnExactReachesOfWrongFalsely : Prop := fnExactReachesOfRow.holds Try.pinned (OpenSpec.ofChange fnExactReachesOfWrong)

/-- 'laws.FnExactCutDead': WHATEVER THE INPUT: true; the input reads as it did. -/
def fnExactCutDeadSpec : ChangeSpec := { name := "fnExactCutDead", fn := fun _ => fun
  | [d] => { results := [.lit (.bool true)], args := [d] }
  | _ => none }
def fnExactCutDeadRow : OpenClaim := { program := "ytmljikgegclolaa", sum := "f5a9036cd86ba415c58eeeb9fc0361c1de570ee8645dcec6575f03c258aa7b4a", func := "loop.example/g00373/laws.FnExactCutDead", spec := "fnExactCutDead", unfollowed := true, recurses := true, apart := false }
def FnExactCutDeadSaid : Prop := fnExactCutDeadRow.holds Try.pinned (OpenSpec.ofChange fnExactCutDeadSpec)

/-- ITS FALSE NEIGHBOUR: 'it returns false'. Refute it at one input. -/
def fnExactCutDeadWrong : ChangeSpec := { name := "fnExactCutDead", fn := fun _ => fun
  | [d] => { results := [.lit (.bool false)], args := [d] }
  | _ => none }
def FnExactCutDeadWrongFalsely : Prop := fnExactCutDeadRow.holds Try.pinned (OpenSpec.ofChange fnExactCutDeadWrong)

/- THE SECOND FORM. 'bulk': how many values and letters a reading holds, each counted each time it is reached (what is shared counts as often as it is met; a slice's spare places count too). A statement '..UptoSaid' is the law's where the arguments, and the package variables that the reading takes, are together of bulk at most 1048576: NARROWER than '..Said'. Prove '..Said' where nothing that the law and all that it calls make is longer than what came in: it says more and counts as full. Else prove '..UptoSaid'. A law counts once. -/
mutual
def uptoBulk {H : Type} : DataW H → Nat
  | .lit (.string bytes) => bytes.length + 1
  | .lit _ => 1
  | .nil => 1
  | .ptr d => uptoBulk d + 1
  | .slice elems spare => uptoBulkAll elems + uptoBulkAll spare + 1
  | .agg parts => uptoBulkAll parts + 1
  | .iface _ d => uptoBulk d + 1
  | .map entries => uptoBulkEntries entries + 1
  | .held _ => 1
def uptoBulkAll {H : Type} : List (DataW H) → Nat
  | [] => 0
  | d :: r => uptoBulk d + uptoBulkAll r
def uptoBulkEntries {H : Type} : List (Lit × DataW H) → Nat
  | [] => 0
  | x :: r => uptoBulkEntry x + uptoBulkEntries r
def uptoBulkEntry {H : Type} : Lit × DataW H → Nat
  | (.string bytes, d) => bytes.length + uptoBulk d + 1
  | (_, d) => uptoBulk d + 1
 end
def uptoSmall : (H : Type) → List (DataW H) → Bool := fun _ ds => decide (uptoBulkAll ds ≤ 1048576)
def OpenSpec.upto (s : _root_.Go.ChangeSpec) : _root_.Go.OpenSpec := { _root_.Go.OpenSpec.ofChange s with cond := some uptoSmall }

/-- 'laws.FnExactGoodSteps', WHERE WHAT IT READS IS OF BULK AT MOST 1048576: true; the input reads as it did. -/
def fnExactGoodStepsUptoRow : OpenClaim := { program := "ytmljikgegclolaa", sum := "f5a9036cd86ba415c58eeeb9fc0361c1de570ee8645dcec6575f03c258aa7b4a", func := "loop.example/g00373/laws.FnExactGoodSteps", spec := "fnExactGoodSteps", unfollowed := true, recurses := true, apart := false, narrowed := true }
def FnExactGoodStepsUptoSaid : Prop := fnExactGoodStepsUptoRow.holds Try.pinned (OpenSpec.upto fnExactGoodStepsSpec)

/-- 'laws.FnExactEndsOf', WHERE WHAT IT READS IS OF BULK AT MOST 1048576: true; the input reads as it did. -/
def fnExactEndsOfUptoRow : OpenClaim := { program := "ytmljikgegclolaa", sum := "f5a9036cd86ba415c58eeeb9fc0361c1de570ee8645dcec6575f03c258aa7b4a", func := "loop.example/g00373/laws.FnExactEndsOf", spec := "fnExactEndsOf", unfollowed := true, recurses := true, apart := false, narrowed := true }
def FnExactEndsOfUptoSaid : Prop := fnExactEndsOfUptoRow.holds Try.pinned (OpenSpec.upto fnExactEndsOfSpec)

/-- 'laws.FnExactTargetOf', WHERE WHAT IT READS IS OF BULK AT MOST 1048576: true; the input reads as it did. -/
def fnExactTargetOfUptoRow : OpenClaim := { program := "ytmljikgegclolaa", sum := "f5a9036cd86ba415c58eeeb9fc0361c1de570ee8645dcec6575f03c258aa7b4a", func := "loop.example/g00373/laws.FnExactTargetOf", spec := "fnExactTargetOf", unfollowed := true, recurses := true, apart := false, narrowed := true }
def FnExactTargetOfUptoSaid : Prop := fnExactTargetOfUptoRow.holds Try.pinned (OpenSpec.upto fnExactTargetOfSpec)

/-- 'laws.FnExactDepthsOf', WHERE WHAT IT READS IS OF BULK AT MOST 1048576: true; the input reads as it did. -/
def fnExactDepthsOfUptoRow : OpenClaim := { program := "ytmljikgegclolaa", sum := "f5a9036cd86ba415c58eeeb9fc0361c1de570ee8645dcec6575f03c258aa7b4a", func := "loop.example/g00373/laws.FnExactDepthsOf", spec := "fnExactDepthsOf", unfollowed := true, recurses := true, apart := false, narrowed := true }
def FnExactDepthsOfUptoSaid : Prop := fnExactDepthsOfUptoRow.holds Try.pinned (OpenSpec.upto fnExactDepthsOfSpec)

/-- 'laws.FnExactStepsBytes', WHERE WHAT IT READS IS OF BULK AT MOST 1048576: true; the input reads as it did. -/
def fnExactStepsBytesUptoRow : OpenClaim := { program := "ytmljikgegclolaa", sum := "f5a9036cd86ba415c58eeeb9fc0361c1de570ee8645dcec6575f03c258aa7b4a", func := "loop.example/g00373/laws.FnExactStepsBytes", spec := "fnExactStepsBytes", unfollowed := true, recurses := true, apart := false, narrowed := true }
def FnExactStepsBytesUptoSaid : Prop := fnExactStepsBytesUptoRow.holds Try.pinned (OpenSpec.upto fnExactStepsBytesSpec)

/-- 'laws.FnExactReadSteps', WHERE WHAT IT READS IS OF BULK AT MOST 1048576: true; the input reads as it did. -/
def fnExactReadStepsUptoRow : OpenClaim := { program := "ytmljikgegclolaa", sum := "f5a9036cd86ba415c58eeeb9fc0361c1de570ee8645dcec6575f03c258aa7b4a", func := "loop.example/g00373/laws.FnExactReadSteps", spec := "fnExactReadSteps", unfollowed := true, recurses := true, apart := false, narrowed := true }
def FnExactReadStepsUptoSaid : Prop := fnExactReadStepsUptoRow.holds Try.pinned (OpenSpec.upto fnExactReadStepsSpec)

/-- 'laws.FnExactValidSteps', WHERE WHAT IT READS IS OF BULK AT MOST 1048576: true; the input reads as it did. -/
def fnExactValidStepsUptoRow : OpenClaim := { program := "ytmljikgegclolaa", sum := "f5a9036cd86ba415c58eeeb9fc0361c1de570ee8645dcec6575f03c258aa7b4a", func := "loop.example/g00373/laws.FnExactValidSteps", spec := "fnExactValidSteps", unfollowed := true, recurses := true, apart := false, narrowed := true }
def FnExactValidStepsUptoSaid : Prop := fnExactValidStepsUptoRow.holds Try.pinned (OpenSpec.upto fnExactValidStepsSpec)

/-- 'laws.FnExactMostHigh', WHERE WHAT IT READS IS OF BULK AT MOST 1048576: true; the input reads as it did. -/
def fnExactMostHighUptoRow : OpenClaim := { program := "ytmljikgegclolaa", sum := "f5a9036cd86ba415c58eeeb9fc0361c1de570ee8645dcec6575f03c258aa7b4a", func := "loop.example/g00373/laws.FnExactMostHigh", spec := "fnExactMostHigh", unfollowed := true, recurses := true, apart := false, narrowed := true }
def FnExactMostHighUptoSaid : Prop := fnExactMostHighUptoRow.holds Try.pinned (OpenSpec.upto fnExactMostHighSpec)

/-- 'laws.FnExactHeightsOf', WHERE WHAT IT READS IS OF BULK AT MOST 1048576: true; the input reads as it did. -/
def fnExactHeightsOfUptoRow : OpenClaim := { program := "ytmljikgegclolaa", sum := "f5a9036cd86ba415c58eeeb9fc0361c1de570ee8645dcec6575f03c258aa7b4a", func := "loop.example/g00373/laws.FnExactHeightsOf", spec := "fnExactHeightsOf", unfollowed := true, recurses := true, apart := false, narrowed := true }
def FnExactHeightsOfUptoSaid : Prop := fnExactHeightsOfUptoRow.holds Try.pinned (OpenSpec.upto fnExactHeightsOfSpec)

/-- 'laws.FnExactReachesOf', WHERE WHAT IT READS IS OF BULK AT MOST 1048576: true; the input reads as it did. -/
def fnExactReachesOfUptoRow : OpenClaim := { program := "ytmljikgegclolaa", sum := "f5a9036cd86ba415c58eeeb9fc0361c1de570ee8645dcec6575f03c258aa7b4a", func := "loop.example/g00373/laws.FnExactReachesOf", spec := "fnExactReachesOf", unfollowed := true, recurses := true, apart := false, narrowed := true }
def FnExactReachesOfUptoSaid : Prop := fnExactReachesOfUptoRow.holds Try.pinned (OpenSpec.upto fnExactReachesOfSpec)

/-- 'laws.FnExactCutDead', WHERE WHAT IT READS IS OF BULK AT MOST 1048576: true; the input reads as it did. -/
def fnExactCutDeadUptoRow : OpenClaim := { program := "ytmljikgegclolaa", sum := "f5a9036cd86ba415c58eeeb9fc0361c1de570ee8645dcec6575f03c258aa7b4a", func := "loop.example/g00373/laws.FnExactCutDead", spec := "fnExactCutDead", unfollowed := true, recurses := true, apart := false, narrowed := true }
def FnExactCutDeadUptoSaid : Prop := fnExactCutDeadUptoRow.holds Try.pinned (OpenSpec.upto fnExactCutDeadSpec)

end Rows
end Go.Proofs.Ytmljikgegclolaa
