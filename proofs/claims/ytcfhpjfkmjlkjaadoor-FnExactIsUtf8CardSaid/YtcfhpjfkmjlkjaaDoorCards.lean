/-
  DERIVED. GIVEN WITH THE SEED: THE CARDS: each row of YtcfhpjfkmjlkjaaDoorRows.lean that lists a variable, with what it lists TIED to the program's text (the seventh form; the later family's looks); each row that meets fmt, with fmt's text TOLD by the authors' own Lean function (tested against real Go, not proved from fmt's source: count such statements apart). THE CARD IS WHAT COUNTS. Prove the row's statement (the work); the ties are given (YtcfhpjfkmjlkjaaDoorTie.lean); close each card by the builder's one call (the guide's Derived/Test/ToyasCard.lean, 'card_holds'). Laid BY PROGRAM, IN A SANDBOX (cutbox-door.mjs). By AI agents, Wed Nov 11 2026. No macro, syntax, notation, axiom, sorry.
-/
import Derived.Test.YtcfhpjfkmjlkjaaDoorRows
import GoSem.ClaimSeven
namespace Go.Proofs.YtcfhpjfkmjlkjaaDoor
namespace Rows

/-- THE TIED CARD OF 'laws.FnExactIsUtf8'. -/
def fnExactIsUtf8Card : Claim7 := { stood := { row := fnExactIsUtf8Row, standIns := [], harness := (true, "e9c055771226e9f37c9efc9ba515701d37086fc90fb5dd5efd36a38fc26f1348"), looks := false }, kinds := [], alts := [], laidByText := true, laidKinds := [.data, .pinned], laidTests := true, laidLooks := .later }
def FnExactIsUtf8CardSaid : Prop := Claim7.holds Tryd.pinned (.plain (OpenSpec.ofChange fnExactIsUtf8Spec)) fnExactIsUtf8Card

/-- THE SECOND FORM's CARD OF 'laws.FnExactIsUtf8'. -/
def fnExactIsUtf8UptoCard : Claim7 := { stood := { row := fnExactIsUtf8UptoRow, standIns := [], harness := (true, "e9c055771226e9f37c9efc9ba515701d37086fc90fb5dd5efd36a38fc26f1348"), looks := false }, kinds := [], alts := [], laidByText := true, laidKinds := [.data, .pinned], laidTests := true, laidLooks := .later }
def FnExactIsUtf8UptoCardSaid : Prop := Claim7.holds Tryd.pinned (.plain (OpenSpec.upto fnExactIsUtf8Spec)) fnExactIsUtf8UptoCard
end Rows
end Go.Proofs.YtcfhpjfkmjlkjaaDoor
