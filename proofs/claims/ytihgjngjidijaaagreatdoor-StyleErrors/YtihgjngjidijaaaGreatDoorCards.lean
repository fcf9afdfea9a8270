/-
  DERIVED. GIVEN WITH THE SEED: THE CARDS: each row of YtihgjngjidijaaaGreatDoorRows.lean that lists a variable, with what it lists TIED to the program's text (the seventh form; the later family's looks); each row that meets fmt, with fmt's text TOLD by the authors' own Lean function (tested against real Go, not proved from fmt's source: count such statements apart). THE CARD IS WHAT COUNTS. Prove the row's statement (the work); the ties are given (YtihgjngjidijaaaGreatDoorTie.lean); close each card by the builder's one call (the guide's Derived/Test/ToyasCard.lean, 'card_holds'). Laid BY PROGRAM, IN A SANDBOX (cutbox-door.mjs). By AI agents, Wed Nov 11 2026. No macro, syntax, notation, axiom, sorry.
-/
import Derived.Test.YtihgjngjidijaaaGreatDoorRows
import GoSem.ClaimSeven
namespace Go.Proofs.YtihgjngjidijaaaGreatDoor
namespace Rows

/-- THE TIED CARD OF 'koinelaw27.StyleErrors'. -/
def styleErrorsCard : Claim7 := { stood := { row := styleErrorsRow, standIns := [], harness := (true, "3423c1be53ddda6dccc77cf420bf2599c658d19a9ed169bd98d20a534d85f529"), looks := true }, kinds := [], alts := [], laidByText := true, laidKinds := [.data, .pinned, .data, .data, .data], laidTests := true, laidLooks := .later }
def StyleErrorsCardSaid : Prop := Claim7.holds Tryz.pinned (.plain (OpenSpec.ofChange styleErrorsSpec)) styleErrorsCard

/-- THE SECOND FORM's CARD OF 'koinelaw27.StyleErrors'. -/
def styleErrorsUptoCard : Claim7 := { stood := { row := styleErrorsUptoRow, standIns := [], harness := (true, "3423c1be53ddda6dccc77cf420bf2599c658d19a9ed169bd98d20a534d85f529"), looks := true }, kinds := [], alts := [], laidByText := true, laidKinds := [.data, .pinned, .data, .data, .data], laidTests := true, laidLooks := .later }
def StyleErrorsUptoCardSaid : Prop := Claim7.holds Tryz.pinned (.plain (OpenSpec.upto styleErrorsSpec)) styleErrorsUptoCard
end Rows
end Go.Proofs.YtihgjngjidijaaaGreatDoor
