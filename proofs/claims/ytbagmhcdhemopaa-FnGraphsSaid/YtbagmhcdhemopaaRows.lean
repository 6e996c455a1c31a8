/-
  No cell of these rows narrows 'for every input' (looked for: loops, veiled, ifaces, maps, wideKeys, modest, calm, conditions, laid).
  DERIVED. THE GIVEN ROWS OF THIS SEAT. 8 by the template 'for every input the law returns true; each argument reads behind the call as it read before'; 0 by the template 'total and deterministic' (their statements: YtbagmhcdhemopaaTotals.lean).
  GIVEN WITH THE SEED: the statements are not yours to turn. If you find one false, say at which input.
  Laid BY PROGRAM, IN A SANDBOX (cutbox-rows.mjs): the forced cells as the released guide's own fill.sh prints them over the translation faf04554ed2a3ae0… (all of the seat's roots in one cut). By AI agents, Wed Nov 11 2026. No macro, syntax, notation, axiom, sorry.
-/
import Derived.Test.YtbagmhcdhemopaaChecked
import GoSem.Claim
import GoSem.ClaimJoined
import GoSem.ClaimMapViews
import Derived.JoinedTies
import Derived.KernelRfl
namespace Go.Proofs.Ytbagmhcdhemopaa
/- THE CELL 'sum', in the pinned program and in every row, IS THE sha256 OF THE DUMP (.gsa) THAT YtbagmhcdhemopaaProg.lean LOADS. Nothing in Lean hashes anything: it is a label: what it is worth is what the hold of that sum in a sandbox is worth. -/
noncomputable def Try.pinned : Pinned := { name := "ytbagmhcdhemopaa", sum := "faf04554ed2a3ae080595a4e97a960f73f3c656ae331ca3e3d35e7dd76f9366a", checked := Try.checked }
namespace Rows
def none {H : Type} : Left H := { results := [], args := [] }

/-- 'laws.FnExactGoodGraph': WHATEVER THE INPUT: true; the input reads as it did. -/
def fnExactGoodGraphSpec : ChangeSpec := { name := "fnExactGoodGraph", fn := fun _ => fun
  | [d] => { results := [.lit (.bool true)], args := [d] }
  | _ => none }
def fnExactGoodGraphRow : OpenClaim := { program := "ytbagmhcdhemopaa", sum := "faf04554ed2a3ae080595a4e97a960f73f3c656ae331ca3e3d35e7dd76f9366a", func := "loop.example/g00373/laws.FnExactGoodGraph", spec := "fnExactGoodGraph", unfollowed := true, recurses := true, apart := false }
def FnExactGoodGraphSaid : Prop := fnExactGoodGraphRow.holds Try.pinned (OpenSpec.ofChange fnExactGoodGraphSpec)

/-- ITS FALSE NEIGHBOUR: 'it returns false'. Refute it at one input. -/
def fnExactGoodGraphWrong : ChangeSpec := { name := "fnExactGoodGraph", fn := fun _ => fun
  | [d] => { results := [.lit (.bool false)], args := [d] }
  | _ => none }
def FnExactGoodGraphWrongFalsely : Prop := fnExactGoodGraphRow.holds Try.pinned (OpenSpec.ofChange fnExactGoodGraphWrong)

/-- 'laws.FnExactOrderOf': WHATEVER THE INPUT: true; the input reads as it did. -/
def fnExactOrderOfSpec : ChangeSpec := { name := "fnExactOrderOf", fn := fun _ => fun
  | [d] => { results := [.lit (.bool true)], args := [d] }
  | _ => none }
def fnExactOrderOfRow : OpenClaim := { program := "ytbagmhcdhemopaa", sum := "faf04554ed2a3ae080595a4e97a960f73f3c656ae331ca3e3d35e7dd76f9366a", func := "loop.example/g00373/laws.FnExactOrderOf", spec := "fnExactOrderOf", unfollowed := true, recurses := true, apart := false }
def FnExactOrderOfSaid : Prop := fnExactOrderOfRow.holds Try.pinned (OpenSpec.ofChange fnExactOrderOfSpec)

/-- ITS FALSE NEIGHBOUR: 'it returns false'. Refute it at one input. -/
def fnExactOrderOfWrong : ChangeSpec := { name := "fnExactOrderOf", fn := fun _ => fun
  | [d] => { results := [.lit (.bool false)], args := [d] }
  | _ => none }
def FnExactOrderOfWrongFalsely : Prop := fnExactOrderOfRow.holds Try.pinned (OpenSpec.ofChange fnExactOrderOfWrong)

/-- 'laws.FnExactIsReducible': WHATEVER THE INPUT: true; the input reads as it did. -/
def fnExactIsReducibleSpec : ChangeSpec := { name := "fnExactIsReducible", fn := fun _ => fun
  | [d] => { results := [.lit (.bool true)], args := [d] }
  | _ => none }
def fnExactIsReducibleRow : OpenClaim := { program := "ytbagmhcdhemopaa", sum := "faf04554ed2a3ae080595a4e97a960f73f3c656ae331ca3e3d35e7dd76f9366a", func := "loop.example/g00373/laws.FnExactIsReducible", spec := "fnExactIsReducible", unfollowed := true, recurses := true, apart := false }
def FnExactIsReducibleSaid : Prop := fnExactIsReducibleRow.holds Try.pinned (OpenSpec.ofChange fnExactIsReducibleSpec)

/-- ITS FALSE NEIGHBOUR: 'it returns false'. Refute it at one input. -/
def fnExactIsReducibleWrong : ChangeSpec := { name := "fnExactIsReducible", fn := fun _ => fun
  | [d] => { results := [.lit (.bool false)], args := [d] }
  | _ => none }
def FnExactIsReducibleWrongFalsely : Prop := fnExactIsReducibleRow.holds Try.pinned (OpenSpec.ofChange fnExactIsReducibleWrong)

/-- 'laws.FnExactDominatorsIn': WHATEVER THE INPUT: true; the input reads as it did. -/
def fnExactDominatorsInSpec : ChangeSpec := { name := "fnExactDominatorsIn", fn := fun _ => fun
  | [d] => { results := [.lit (.bool true)], args := [d] }
  | _ => none }
def fnExactDominatorsInRow : OpenClaim := { program := "ytbagmhcdhemopaa", sum := "faf04554ed2a3ae080595a4e97a960f73f3c656ae331ca3e3d35e7dd76f9366a", func := "loop.example/g00373/laws.FnExactDominatorsIn", spec := "fnExactDominatorsIn", unfollowed := true, recurses := true, apart := false }
def FnExactDominatorsInSaid : Prop := fnExactDominatorsInRow.holds Try.pinned (OpenSpec.ofChange fnExactDominatorsInSpec)

/-- ITS FALSE NEIGHBOUR: 'it returns false'. Refute it at one input. -/
def fnExactDominatorsInWrong : ChangeSpec := { name := "fnExactDominatorsIn", fn := fun _ => fun
  | [d] => { results := [.lit (.bool false)], args := [d] }
  | _ => none }
def FnExactDominatorsInWrongFalsely : Prop := fnExactDominatorsInRow.holds Try.pinned (OpenSpec.ofChange fnExactDominatorsInWrong)

/-- 'laws.FnExactLimitOf': WHATEVER THE INPUT: true; the input reads as it did. -/
def fnExactLimitOfSpec : ChangeSpec := { name := "fnExactLimitOf", fn := fun _ => fun
  | [d] => { results := [.lit (.bool true)], args := [d] }
  | _ => none }
def fnExactLimitOfRow : OpenClaim := { program := "ytbagmhcdhemopaa", sum := "faf04554ed2a3ae080595a4e97a960f73f3c656ae331ca3e3d35e7dd76f9366a", func := "loop.example/g00373/laws.FnExactLimitOf", spec := "fnExactLimitOf", unfollowed := true, recurses := true, apart := false }
def FnExactLimitOfSaid : Prop := fnExactLimitOfRow.holds Try.pinned (OpenSpec.ofChange fnExactLimitOfSpec)

/-- ITS FALSE NEIGHBOUR: 'it returns false'. Refute it at one input. -/
def fnExactLimitOfWrong : ChangeSpec := { name := "fnExactLimitOf", fn := fun _ => fun
  | [d] => { results := [.lit (.bool false)], args := [d] }
  | _ => none }
def FnExactLimitOfWrongFalsely : Prop := fnExactLimitOfRow.holds Try.pinned (OpenSpec.ofChange fnExactLimitOfWrong)

/-- 'laws.FnExactBackEdgesIn': WHATEVER THE INPUT: true; the input reads as it did. -/
def fnExactBackEdgesInSpec : ChangeSpec := { name := "fnExactBackEdgesIn", fn := fun _ => fun
  | [d] => { results := [.lit (.bool true)], args := [d] }
  | _ => none }
def fnExactBackEdgesInRow : OpenClaim := { program := "ytbagmhcdhemopaa", sum := "faf04554ed2a3ae080595a4e97a960f73f3c656ae331ca3e3d35e7dd76f9366a", func := "loop.example/g00373/laws.FnExactBackEdgesIn", spec := "fnExactBackEdgesIn", unfollowed := true, recurses := true, apart := false }
def FnExactBackEdgesInSaid : Prop := fnExactBackEdgesInRow.holds Try.pinned (OpenSpec.ofChange fnExactBackEdgesInSpec)

/-- ITS FALSE NEIGHBOUR: 'it returns false'. Refute it at one input. -/
def fnExactBackEdgesInWrong : ChangeSpec := { name := "fnExactBackEdgesIn", fn := fun _ => fun
  | [d] => { results := [.lit (.bool false)], args := [d] }
  | _ => none }
def FnExactBackEdgesInWrongFalsely : Prop := fnExactBackEdgesInRow.holds Try.pinned (OpenSpec.ofChange fnExactBackEdgesInWrong)

/-- 'laws.FnExactSplitNode': WHATEVER THE INPUT: true; the input reads as it did. -/
def fnExactSplitNodeSpec : ChangeSpec := { name := "fnExactSplitNode", fn := fun _ => fun
  | [d1, d2, d3] => { results := [.lit (.bool true)], args := [d1, d2, d3] }
  | _ => none }
def fnExactSplitNodeRow : OpenClaim := { program := "ytbagmhcdhemopaa", sum := "faf04554ed2a3ae080595a4e97a960f73f3c656ae331ca3e3d35e7dd76f9366a", func := "loop.example/g00373/laws.FnExactSplitNode", spec := "fnExactSplitNode", unfollowed := true, recurses := true, apart := false }
def FnExactSplitNodeSaid : Prop := fnExactSplitNodeRow.holds Try.pinned (OpenSpec.ofChange fnExactSplitNodeSpec)

/-- ITS FALSE NEIGHBOUR: 'it returns false'. Refute it at one input. -/
def fnExactSplitNodeWrong : ChangeSpec := { name := "fnExactSplitNode", fn := fun _ => fun
  | [d1, d2, d3] => { results := [.lit (.bool false)], args := [d1, d2, d3] }
  | _ => none }
def FnExactSplitNodeWrongFalsely : Prop := fnExactSplitNodeRow.holds Try.pinned (OpenSpec.ofChange fnExactSplitNodeWrong)

/-- 'laws.FnGraphs': WHATEVER THE INPUT: true; the input reads as it did. -/
def fnGraphsSpec : ChangeSpec := { name := "fnGraphs", fn := fun _ => fun
  | [d] => { results := [.lit (.bool true)], args := [d] }
  | _ => none }
def fnGraphsRow : OpenClaim := { program := "ytbagmhcdhemopaa", sum := "faf04554ed2a3ae080595a4e97a960f73f3c656ae331ca3e3d35e7dd76f9366a", func := "loop.example/g00373/laws.FnGraphs", spec := "fnGraphs", unfollowed := true, recurses := true, apart := false }
def FnGraphsSaid : Prop := fnGraphsRow.holds Try.pinned (OpenSpec.ofChange fnGraphsSpec)

/-- ITS FALSE NEIGHBOUR: 'it returns false'. Refute it at one input. -/
def fnGraphsWrong : ChangeSpec := { name := "fnGraphs", fn := fun _ => fun
  | [d] => { results := [.lit (.bool false)], args := [d] }
  | _ => none }
def FnGraphsWrongFalsely : Prop := fnGraphsRow.holds Try.pinned (OpenSpec.ofChange fnGraphsWrong)

/- THE SECOND FORM. 'bulk': how many values and letters a reading holds, each counted each time it is reached (what is shared counts as often as it is met; a slice's spare places count too). A statement '..UptoSaid' is the law's where the arguments, and the package variables that the reading takes, are together of bulk at most 1048576: NARROWER than '..Said'. Prove '..Said' where nothing that the law and all that it calls make is longer than what came in: it says more and counts as full. Else prove '..UptoSaid'. A law counts once. -/
mutual
def uptoBulk {H : Type} : DataW H → Nat
  | .lit (.string bytes) => bytes.length + 1
  | .lit _ => 1
  | .nil => 1
  | .ptr d => uptoBulk d + 1
  | .slice elems spare => uptoBulkAll elems + uptoBulkAll spare + 1
  | .agg parts => uptoBulkAll parts + 1
  | .iface _ d => uptoBulk d + 1
  | .map entries => uptoBulkEntries entries + 1
  | .held _ => 1
def uptoBulkAll {H : Type} : List (DataW H) → Nat
  | [] => 0
  | d :: r => uptoBulk d + uptoBulkAll r
def uptoBulkEntries {H : Type} : List (Lit × DataW H) → Nat
  | [] => 0
  | x :: r => uptoBulkEntry x + uptoBulkEntries r
def uptoBulkEntry {H : Type} : Lit × DataW H → Nat
  | (.string bytes, d) => bytes.length + uptoBulk d + 1
  | (_, d) => uptoBulk d + 1
 end
def uptoSmall : (H : Type) → List (DataW H) → Bool := fun _ ds => decide (uptoBulkAll ds ≤ 1048576)
def OpenSpec.upto (s : _root_.Go.ChangeSpec) : _root_.Go.OpenSpec := { _root_.Go.OpenSpec.ofChange s with cond := some uptoSmall }

/-- 'laws.FnExactGoodGraph', WHERE WHAT IT READS IS OF BULK AT MOST 1048576: true; the input reads as it did. -/
def fnExactGoodGraphUptoRow : OpenClaim := { program := "ytbagmhcdhemopaa", sum := "faf04554ed2a3ae080595a4e97a960f73f3c656ae331ca3e3d35e7dd76f9366a", func := "loop.example/g00373/laws.FnExactGoodGraph", spec := "fnExactGoodGraph", unfollowed := true, recurses := true, apart := false, narrowed := true }
def FnExactGoodGraphUptoSaid : Prop := fnExactGoodGraphUptoRow.holds Try.pinned (OpenSpec.upto fnExactGoodGraphSpec)

/-- 'laws.FnExactOrderOf', WHERE WHAT IT READS IS OF BULK AT MOST 1048576: true; the input reads as it did. -/
def fnExactOrderOfUptoRow : OpenClaim := { program := "ytbagmhcdhemopaa", sum := "faf04554ed2a3ae080595a4e97a960f73f3c656ae331ca3e3d35e7dd76f9366a", func := "loop.example/g00373/laws.FnExactOrderOf", spec := "fnExactOrderOf", unfollowed := true, recurses := true, apart := false, narrowed := true }
def FnExactOrderOfUptoSaid : Prop := fnExactOrderOfUptoRow.holds Try.pinned (OpenSpec.upto fnExactOrderOfSpec)

/-- 'laws.FnExactIsReducible', WHERE WHAT IT READS IS OF BULK AT MOST 1048576: true; the input reads as it did. -/
def fnExactIsReducibleUptoRow : OpenClaim := { program := "ytbagmhcdhemopaa", sum := "faf04554ed2a3ae080595a4e97a960f73f3c656ae331ca3e3d35e7dd76f9366a", func := "loop.example/g00373/laws.FnExactIsReducible", spec := "fnExactIsReducible", unfollowed := true, recurses := true, apart := false, narrowed := true }
def FnExactIsReducibleUptoSaid : Prop := fnExactIsReducibleUptoRow.holds Try.pinned (OpenSpec.upto fnExactIsReducibleSpec)

/-- 'laws.FnExactDominatorsIn', WHERE WHAT IT READS IS OF BULK AT MOST 1048576: true; the input reads as it did. -/
def fnExactDominatorsInUptoRow : OpenClaim := { program := "ytbagmhcdhemopaa", sum := "faf04554ed2a3ae080595a4e97a960f73f3c656ae331ca3e3d35e7dd76f9366a", func := "loop.example/g00373/laws.FnExactDominatorsIn", spec := "fnExactDominatorsIn", unfollowed := true, recurses := true, apart := false, narrowed := true }
def FnExactDominatorsInUptoSaid : Prop := fnExactDominatorsInUptoRow.holds Try.pinned (OpenSpec.upto fnExactDominatorsInSpec)

/-- 'laws.FnExactLimitOf', WHERE WHAT IT READS IS OF BULK AT MOST 1048576: true; the input reads as it did. -/
def fnExactLimitOfUptoRow : OpenClaim := { program := "ytbagmhcdhemopaa", sum := "faf04554ed2a3ae080595a4e97a960f73f3c656ae331ca3e3d35e7dd76f9366a", func := "loop.example/g00373/laws.FnExactLimitOf", spec := "fnExactLimitOf", unfollowed := true, recurses := true, apart := false, narrowed := true }
def FnExactLimitOfUptoSaid : Prop := fnExactLimitOfUptoRow.holds Try.pinned (OpenSpec.upto fnExactLimitOfSpec)

/-- 'laws.FnExactBackEdgesIn', WHERE WHAT IT READS IS OF BULK AT MOST 1048576: true; the input reads as it did. -/
def fnExactBackEdgesInUptoRow : OpenClaim := { program := "ytbagmhcdhemopaa", sum := "faf04554ed2a3ae080595a4e97a960f73f3c656ae331ca3e3d35e7dd76f9366a", func := "loop.example/g00373/laws.FnExactBackEdgesIn", spec := "fnExactBackEdgesIn", unfollowed := true, recurses := true, apart := false, narrowed := true }
def FnExactBackEdgesInUptoSaid : Prop := fnExactBackEdgesInUptoRow.holds Try.pinned (OpenSpec.upto fnExactBackEdgesInSpec)

/-- 'laws.FnExactSplitNode', WHERE WHAT IT READS IS OF BULK AT MOST 1048576: true; the input reads as it did. -/
def fnExactSplitNodeUptoRow : OpenClaim := { program := "ytbagmhcdhemopaa", sum := "faf04554ed2a3ae080595a4e97a960f73f3c656ae331ca3e3d35e7dd76f9366a", func := "loop.example/g00373/laws.FnExactSplitNode", spec := "fnExactSplitNode", unfollowed := true, recurses := true, apart := false, narrowed := true }
def FnExactSplitNodeUptoSaid : Prop := fnExactSplitNodeUptoRow.holds Try.pinned (OpenSpec.upto fnExactSplitNodeSpec)

/-- 'laws.FnGraphs', WHERE WHAT IT READS IS OF BULK AT MOST 1048576: true; the input reads as it did. -/
def fnGraphsUptoRow : OpenClaim := { program := "ytbagmhcdhemopaa", sum := "faf04554ed2a3ae080595a4e97a960f73f3c656ae331ca3e3d35e7dd76f9366a", func := "loop.example/g00373/laws.FnGraphs", spec := "fnGraphs", unfollowed := true, recurses := true, apart := false, narrowed := true }
def FnGraphsUptoSaid : Prop := fnGraphsUptoRow.holds Try.pinned (OpenSpec.upto fnGraphsSpec)

end Rows
end Go.Proofs.Ytbagmhcdhemopaa
