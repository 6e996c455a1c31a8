/-
  No cell of these rows narrows 'for every input' (looked for: loops, veiled, ifaces, maps, wideKeys, modest, calm, conditions, laid).
  DERIVED. THE GIVEN ROWS OF THIS SEAT. 7 by the template 'for every input the law returns true; each argument reads behind the call as it read before'; 0 by the template 'total and deterministic' (their statements: YtbmnoenbhlfjaaaTotals.lean).
  GIVEN WITH THE SEED: the statements are not yours to turn. If you find one false, say at which input.
  Laid BY PROGRAM, IN A SANDBOX (cutbox-rows.mjs): the forced cells as the released guide's own fill.sh prints them over the translation 8008c6f5333b99b4… (all of the seat's roots in one cut). By AI agents, Wed Nov 11 2026. No macro, syntax, notation, axiom, sorry.
-/
import Derived.Test.YtbmnoenbhlfjaaaChecked
import GoSem.Claim
import GoSem.ClaimJoined
import GoSem.ClaimMapViews
import Derived.JoinedTies
import Derived.KernelRfl
namespace Go.Proofs.Ytbmnoenbhlfjaaa
/- THE CELL 'sum', in the pinned program and in every row, IS THE sha256 OF THE DUMP (.gsa) THAT YtbmnoenbhlfjaaaProg.lean LOADS. Nothing in Lean hashes anything: it is a label: what it is worth is what the hold of that sum in a sandbox is worth. -/
noncomputable def Try.pinned : Pinned := { name := "ytbmnoenbhlfjaaa", sum := "8008c6f5333b99b466459d6dd492cf1be33d9ac25399a38098388394cce149f3", checked := Try.checked }
namespace Rows
def none {H : Type} : Left H := { results := [], args := [] }

/-- 'laws.FnExactDeepIn': WHATEVER THE INPUT: true; the input reads as it did. -/
def fnExactDeepInSpec : ChangeSpec := { name := "fnExactDeepIn", fn := fun _ => fun
  | [d1, d2] => { results := [.lit (.bool true)], args := [d1, d2] }
  | _ => none }
def fnExactDeepInRow : OpenClaim := { program := "ytbmnoenbhlfjaaa", sum := "8008c6f5333b99b466459d6dd492cf1be33d9ac25399a38098388394cce149f3", func := "loop.example/g00373/laws.FnExactDeepIn", spec := "fnExactDeepIn", unfollowed := true, recurses := true, apart := false }
def FnExactDeepInSaid : Prop := fnExactDeepInRow.holds Try.pinned (OpenSpec.ofChange fnExactDeepInSpec)

/-- ITS FALSE NEIGHBOUR: 'it returns false'. Refute it at one input. -/
def fnExactDeepInWrong : ChangeSpec := { name := "fnExactDeepIn", fn := fun _ => fun
  | [d1, d2] => { results := [.lit (.bool false)], args := [d1, d2] }
  | _ => none }
def FnExactDeepInWrongFalsely : Prop := fnExactDeepInRow.holds Try.pinned (OpenSpec.ofChange fnExactDeepInWrong)

/-- 'laws.FnExactInnermostAt': WHATEVER THE INPUT: true; the input reads as it did. -/
def fnExactInnermostAtSpec : ChangeSpec := { name := "fnExactInnermostAt", fn := fun _ => fun
  | [d1, d2] => { results := [.lit (.bool true)], args := [d1, d2] }
  | _ => none }
def fnExactInnermostAtRow : OpenClaim := { program := "ytbmnoenbhlfjaaa", sum := "8008c6f5333b99b466459d6dd492cf1be33d9ac25399a38098388394cce149f3", func := "loop.example/g00373/laws.FnExactInnermostAt", spec := "fnExactInnermostAt", unfollowed := true, recurses := true, apart := false }
def FnExactInnermostAtSaid : Prop := fnExactInnermostAtRow.holds Try.pinned (OpenSpec.ofChange fnExactInnermostAtSpec)

/-- ITS FALSE NEIGHBOUR: 'it returns false'. Refute it at one input. -/
def fnExactInnermostAtWrong : ChangeSpec := { name := "fnExactInnermostAt", fn := fun _ => fun
  | [d1, d2] => { results := [.lit (.bool false)], args := [d1, d2] }
  | _ => none }
def FnExactInnermostAtWrongFalsely : Prop := fnExactInnermostAtRow.holds Try.pinned (OpenSpec.ofChange fnExactInnermostAtWrong)

/-- 'laws.FnExactExitsOf': WHATEVER THE INPUT: true; the input reads as it did. -/
def fnExactExitsOfSpec : ChangeSpec := { name := "fnExactExitsOf", fn := fun _ => fun
  | [d1, d2] => { results := [.lit (.bool true)], args := [d1, d2] }
  | _ => none }
def fnExactExitsOfRow : OpenClaim := { program := "ytbmnoenbhlfjaaa", sum := "8008c6f5333b99b466459d6dd492cf1be33d9ac25399a38098388394cce149f3", func := "loop.example/g00373/laws.FnExactExitsOf", spec := "fnExactExitsOf", unfollowed := true, recurses := true, apart := false }
def FnExactExitsOfSaid : Prop := fnExactExitsOfRow.holds Try.pinned (OpenSpec.ofChange fnExactExitsOfSpec)

/-- ITS FALSE NEIGHBOUR: 'it returns false'. Refute it at one input. -/
def fnExactExitsOfWrong : ChangeSpec := { name := "fnExactExitsOf", fn := fun _ => fun
  | [d1, d2] => { results := [.lit (.bool false)], args := [d1, d2] }
  | _ => none }
def FnExactExitsOfWrongFalsely : Prop := fnExactExitsOfRow.holds Try.pinned (OpenSpec.ofChange fnExactExitsOfWrong)

/-- 'laws.FnExactLoopsOf': WHATEVER THE INPUT: true; the input reads as it did. -/
def fnExactLoopsOfSpec : ChangeSpec := { name := "fnExactLoopsOf", fn := fun _ => fun
  | [d] => { results := [.lit (.bool true)], args := [d] }
  | _ => none }
def fnExactLoopsOfRow : OpenClaim := { program := "ytbmnoenbhlfjaaa", sum := "8008c6f5333b99b466459d6dd492cf1be33d9ac25399a38098388394cce149f3", func := "loop.example/g00373/laws.FnExactLoopsOf", spec := "fnExactLoopsOf", unfollowed := true, recurses := true, apart := false }
def FnExactLoopsOfSaid : Prop := fnExactLoopsOfRow.holds Try.pinned (OpenSpec.ofChange fnExactLoopsOfSpec)

/-- ITS FALSE NEIGHBOUR: 'it returns false'. Refute it at one input. -/
def fnExactLoopsOfWrong : ChangeSpec := { name := "fnExactLoopsOf", fn := fun _ => fun
  | [d] => { results := [.lit (.bool false)], args := [d] }
  | _ => none }
def FnExactLoopsOfWrongFalsely : Prop := fnExactLoopsOfRow.holds Try.pinned (OpenSpec.ofChange fnExactLoopsOfWrong)

/-- 'laws.FnExactEntriesOf': WHATEVER THE INPUT: true; the input reads as it did. -/
def fnExactEntriesOfSpec : ChangeSpec := { name := "fnExactEntriesOf", fn := fun _ => fun
  | [d1, d2] => { results := [.lit (.bool true)], args := [d1, d2] }
  | _ => none }
def fnExactEntriesOfRow : OpenClaim := { program := "ytbmnoenbhlfjaaa", sum := "8008c6f5333b99b466459d6dd492cf1be33d9ac25399a38098388394cce149f3", func := "loop.example/g00373/laws.FnExactEntriesOf", spec := "fnExactEntriesOf", unfollowed := true, recurses := true, apart := false }
def FnExactEntriesOfSaid : Prop := fnExactEntriesOfRow.holds Try.pinned (OpenSpec.ofChange fnExactEntriesOfSpec)

/-- ITS FALSE NEIGHBOUR: 'it returns false'. Refute it at one input. -/
def fnExactEntriesOfWrong : ChangeSpec := { name := "fnExactEntriesOf", fn := fun _ => fun
  | [d1, d2] => { results := [.lit (.bool false)], args := [d1, d2] }
  | _ => none }
def FnExactEntriesOfWrongFalsely : Prop := fnExactEntriesOfRow.holds Try.pinned (OpenSpec.ofChange fnExactEntriesOfWrong)

/-- 'laws.FnExactGoodLoops': WHATEVER THE INPUT: true; the input reads as it did. -/
def fnExactGoodLoopsSpec : ChangeSpec := { name := "fnExactGoodLoops", fn := fun _ => fun
  | [d1, d2] => { results := [.lit (.bool true)], args := [d1, d2] }
  | _ => none }
def fnExactGoodLoopsRow : OpenClaim := { program := "ytbmnoenbhlfjaaa", sum := "8008c6f5333b99b466459d6dd492cf1be33d9ac25399a38098388394cce149f3", func := "loop.example/g00373/laws.FnExactGoodLoops", spec := "fnExactGoodLoops", unfollowed := true, recurses := true, apart := false }
def FnExactGoodLoopsSaid : Prop := fnExactGoodLoopsRow.holds Try.pinned (OpenSpec.ofChange fnExactGoodLoopsSpec)

/-- ITS FALSE NEIGHBOUR: 'it returns false'. Refute it at one input. -/
def fnExactGoodLoopsWrong : ChangeSpec := { name := "fnExactGoodLoops", fn := fun _ => fun
  | [d1, d2] => { results := [.lit (.bool false)], args := [d1, d2] }
  | _ => none }
def FnExactGoodLoopsWrongFalsely : Prop := fnExactGoodLoopsRow.holds Try.pinned (OpenSpec.ofChange fnExactGoodLoopsWrong)

/-- 'laws.FnLoops': WHATEVER THE INPUT: true; the input reads as it did. -/
def fnLoopsSpec : ChangeSpec := { name := "fnLoops", fn := fun _ => fun
  | [d1, d2] => { results := [.lit (.bool true)], args := [d1, d2] }
  | _ => none }
def fnLoopsRow : OpenClaim := { program := "ytbmnoenbhlfjaaa", sum := "8008c6f5333b99b466459d6dd492cf1be33d9ac25399a38098388394cce149f3", func := "loop.example/g00373/laws.FnLoops", spec := "fnLoops", unfollowed := true, recurses := true, apart := false }
def FnLoopsSaid : Prop := fnLoopsRow.holds Try.pinned (OpenSpec.ofChange fnLoopsSpec)

/-- ITS FALSE NEIGHBOUR: 'it returns false'. Refute it at one input. -/
def fnLoopsWrong : ChangeSpec := { name := "fnLoops", fn := fun _ => fun
  | [d1, d2] => { results := [.lit (.bool false)], args := [d1, d2] }
  | _ => none }
def FnLoopsWrongFalsely : Prop := fnLoopsRow.holds Try.pinned (OpenSpec.ofChange fnLoopsWrong)

/- THE SECOND FORM. 'bulk': how many values and letters a reading holds, each counted each time it is reached (what is shared counts as often as it is met; a slice's spare places count too). A statement '..UptoSaid' is the law's where the arguments, and the package variables that the reading takes, are together of bulk at most 1048576: NARROWER than '..Said'. Prove '..Said' where nothing that the law and all that it calls make is longer than what came in: it says more and counts as full. Else prove '..UptoSaid'. A law counts once. -/
mutual
def uptoBulk {H : Type} : DataW H → Nat
  | .lit (.string bytes) => bytes.length + 1
  | .lit _ => 1
  | .nil => 1
  | .ptr d => uptoBulk d + 1
  | .slice elems spare => uptoBulkAll elems + uptoBulkAll spare + 1
  | .agg parts => uptoBulkAll parts + 1
  | .iface _ d => uptoBulk d + 1
  | .map entries => uptoBulkEntries entries + 1
  | .held _ => 1
def uptoBulkAll {H : Type} : List (DataW H) → Nat
  | [] => 0
  | d :: r => uptoBulk d + uptoBulkAll r
def uptoBulkEntries {H : Type} : List (Lit × DataW H) → Nat
  | [] => 0
  | x :: r => uptoBulkEntry x + uptoBulkEntries r
def uptoBulkEntry {H : Type} : Lit × DataW H → Nat
  | (.string bytes, d) => bytes.length + uptoBulk d + 1
  | (_, d) => uptoBulk d + 1
 end
def uptoSmall : (H : Type) → List (DataW H) → Bool := fun _ ds => decide (uptoBulkAll ds ≤ 1048576)
def OpenSpec.upto (s : _root_.Go.ChangeSpec) : _root_.Go.OpenSpec := { _root_.Go.OpenSpec.ofChange s with cond := some uptoSmall }

/-- 'laws.FnExactDeepIn', WHERE WHAT IT READS IS OF BULK AT MOST 1048576: true; the input reads as it did. -/
def fnExactDeepInUptoRow : OpenClaim := { program := "ytbmnoenbhlfjaaa", sum := "8008c6f5333b99b466459d6dd492cf1be33d9ac25399a38098388394cce149f3", func := "loop.example/g00373/laws.FnExactDeepIn", spec := "fnExactDeepIn", unfollowed := true, recurses := true, apart := false, narrowed := true }
def FnExactDeepInUptoSaid : Prop := fnExactDeepInUptoRow.holds Try.pinned (OpenSpec.upto fnExactDeepInSpec)

/-- 'laws.FnExactInnermostAt', WHERE WHAT IT READS IS OF BULK AT MOST 1048576: true; the input reads as it did. -/
def fnExactInnermostAtUptoRow : OpenClaim := { program := "ytbmnoenbhlfjaaa", sum := "8008c6f5333b99b466459d6dd492cf1be33d9ac25399a38098388394cce149f3", func := "loop.example/g00373/laws.FnExactInnermostAt", spec := "fnExactInnermostAt", unfollowed := true, recurses := true, apart := false, narrowed := true }
def FnExactInnermostAtUptoSaid : Prop := fnExactInnermostAtUptoRow.holds Try.pinned (OpenSpec.upto fnExactInnermostAtSpec)

/-- 'laws.FnExactExitsOf', WHERE WHAT IT READS IS OF BULK AT MOST 1048576: true; the input reads as it did. -/
def fnExactExitsOfUptoRow : OpenClaim := { program := "ytbmnoenbhlfjaaa", sum := "8008c6f5333b99b466459d6dd492cf1be33d9ac25399a38098388394cce149f3", func := "loop.example/g00373/laws.FnExactExitsOf", spec := "fnExactExitsOf", unfollowed := true, recurses := true, apart := false, narrowed := true }
def FnExactExitsOfUptoSaid : Prop := fnExactExitsOfUptoRow.holds Try.pinned (OpenSpec.upto fnExactExitsOfSpec)

/-- 'laws.FnExactLoopsOf', WHERE WHAT IT READS IS OF BULK AT MOST 1048576: true; the input reads as it did. -/
def fnExactLoopsOfUptoRow : OpenClaim := { program := "ytbmnoenbhlfjaaa", sum := "8008c6f5333b99b466459d6dd492cf1be33d9ac25399a38098388394cce149f3", func := "loop.example/g00373/laws.FnExactLoopsOf", spec := "fnExactLoopsOf", unfollowed := true, recurses := true, apart := false, narrowed := true }
def FnExactLoopsOfUptoSaid : Prop := fnExactLoopsOfUptoRow.holds Try.pinned (OpenSpec.upto fnExactLoopsOfSpec)

/-- 'laws.FnExactEntriesOf', WHERE WHAT IT READS IS OF BULK AT MOST 1048576: true; the input reads as it did. -/
def fnExactEntriesOfUptoRow : OpenClaim := { program := "ytbmnoenbhlfjaaa", sum := "8008c6f5333b99b466459d6dd492cf1be33d9ac25399a38098388394cce149f3", func := "loop.example/g00373/laws.FnExactEntriesOf", spec := "fnExactEntriesOf", unfollowed := true, recurses := true, apart := false, narrowed := true }
def FnExactEntriesOfUptoSaid : Prop := fnExactEntriesOfUptoRow.holds Try.pinned (OpenSpec.upto fnExactEntriesOfSpec)

/-- 'laws.FnExactGoodLoops', WHERE WHAT IT READS IS OF BULK AT MOST 1048576: true; the input reads as it did. -/
def fnExactGoodLoopsUptoRow : OpenClaim := { program := "ytbmnoenbhlfjaaa", sum := "8008c6f5333b99b466459d6dd492cf1be33d9ac25399a38098388394cce149f3", func := "loop.example/g00373/laws.FnExactGoodLoops", spec := "fnExactGoodLoops", unfollowed := true, recurses := true, apart := false, narrowed := true }
def FnExactGoodLoopsUptoSaid : Prop := fnExactGoodLoopsUptoRow.holds Try.pinned (OpenSpec.upto fnExactGoodLoopsSpec)

/-- 'laws.FnLoops', WHERE WHAT IT READS IS OF BULK AT MOST 1048576: true; the input reads as it did. -/
def fnLoopsUptoRow : OpenClaim := { program := "ytbmnoenbhlfjaaa", sum := "8008c6f5333b99b466459d6dd492cf1be33d9ac25399a38098388394cce149f3", func := "loop.example/g00373/laws.FnLoops", spec := "fnLoops", unfollowed := true, recurses := true, apart := false, narrowed := true }
def FnLoopsUptoSaid : Prop := fnLoopsUptoRow.holds Try.pinned (OpenSpec.upto fnLoopsSpec)

end Rows
end Go.Proofs.Ytbmnoenbhlfjaaa
