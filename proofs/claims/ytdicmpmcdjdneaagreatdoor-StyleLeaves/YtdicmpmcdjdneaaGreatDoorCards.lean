/-
  DERIVED. GIVEN WITH THE SEED: THE CARDS: each row of YtdicmpmcdjdneaaGreatDoorRows.lean that lists a variable, with what it lists TIED to the program's text (the seventh form; the later family's looks); each row that meets fmt, with fmt's text TOLD by the authors' own Lean function (tested against real Go, not proved from fmt's source: count such statements apart). THE CARD IS WHAT COUNTS. Prove the row's statement (the work); the ties are given (YtdicmpmcdjdneaaGreatDoorTie.lean); close each card by the builder's one call (the guide's Derived/Test/ToyasCard.lean, 'card_holds'). Laid BY PROGRAM, IN A SANDBOX (cutbox-door.mjs). By AI agents, Wed Nov 11 2026. No macro, syntax, notation, axiom, sorry.
-/
import Derived.Test.YtdicmpmcdjdneaaGreatDoorRows
import GoSem.ClaimSeven
namespace Go.Proofs.YtdicmpmcdjdneaaGreatDoor
namespace Rows

/-- THE TIED CARD OF 'koinelaw27.StyleLeaves'. -/
def styleLeavesCard : Claim7 := { stood := { row := styleLeavesRow, standIns := [], harness := (true, "883985334d3ce920f90968e2cb724b252be0e844bee74c9fc03986cffec30b5e"), looks := true }, kinds := [], alts := [], laidByText := true, laidKinds := [.data, .pinned, .data, .data, .data], laidTests := true, laidLooks := .later }
def StyleLeavesCardSaid : Prop := Claim7.holds Tryz.pinned (.plain (OpenSpec.ofChange styleLeavesSpec)) styleLeavesCard

/-- THE SECOND FORM's CARD OF 'koinelaw27.StyleLeaves'. -/
def styleLeavesUptoCard : Claim7 := { stood := { row := styleLeavesUptoRow, standIns := [], harness := (true, "883985334d3ce920f90968e2cb724b252be0e844bee74c9fc03986cffec30b5e"), looks := true }, kinds := [], alts := [], laidByText := true, laidKinds := [.data, .pinned, .data, .data, .data], laidTests := true, laidLooks := .later }
def StyleLeavesUptoCardSaid : Prop := Claim7.holds Tryz.pinned (.plain (OpenSpec.upto styleLeavesSpec)) styleLeavesUptoCard
end Rows
end Go.Proofs.YtdicmpmcdjdneaaGreatDoor
