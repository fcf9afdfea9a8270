/-
  DERIVED. GIVEN WITH THE SEED: THE CARDS: each row of YtdmkaddihnnbaaaGreatDoorRows.lean that lists a variable, with what it lists TIED to the program's text (the seventh form; the later family's looks); each row that meets fmt, with fmt's text TOLD by the authors' own Lean function (tested against real Go, not proved from fmt's source: count such statements apart). THE CARD IS WHAT COUNTS. Prove the row's statement (the work); the ties are given (YtdmkaddihnnbaaaGreatDoorTie.lean); close each card by the builder's one call (the guide's Derived/Test/ToyasCard.lean, 'card_holds'). Laid BY PROGRAM, IN A SANDBOX (cutbox-door.mjs). By AI agents, Wed Nov 11 2026. No macro, syntax, notation, axiom, sorry.
-/
import Derived.Test.YtdmkaddihnnbaaaGreatDoorRows
import GoSem.ClaimSeven
namespace Go.Proofs.YtdmkaddihnnbaaaGreatDoor
namespace Rows

/-- THE TIED CARD OF 'koinelaw27.StyleGroups'. -/
def styleGroupsCard : Claim7 := { stood := { row := styleGroupsRow, standIns := [], harness := (true, "908ef88904c7dcc2ba989ca48a6f628a7930bd25cdbeee945937b36883bb07bf"), looks := true }, kinds := [], alts := [], laidByText := true, laidKinds := [.data, .pinned, .data, .data, .data], laidTests := true, laidLooks := .later }
def StyleGroupsCardSaid : Prop := Claim7.holds Tryz.pinned (.plain (OpenSpec.ofChange styleGroupsSpec)) styleGroupsCard

/-- THE SECOND FORM's CARD OF 'koinelaw27.StyleGroups'. -/
def styleGroupsUptoCard : Claim7 := { stood := { row := styleGroupsUptoRow, standIns := [], harness := (true, "908ef88904c7dcc2ba989ca48a6f628a7930bd25cdbeee945937b36883bb07bf"), looks := true }, kinds := [], alts := [], laidByText := true, laidKinds := [.data, .pinned, .data, .data, .data], laidTests := true, laidLooks := .later }
def StyleGroupsUptoCardSaid : Prop := Claim7.holds Tryz.pinned (.plain (OpenSpec.upto styleGroupsSpec)) styleGroupsUptoCard
end Rows
end Go.Proofs.YtdmkaddihnnbaaaGreatDoor
