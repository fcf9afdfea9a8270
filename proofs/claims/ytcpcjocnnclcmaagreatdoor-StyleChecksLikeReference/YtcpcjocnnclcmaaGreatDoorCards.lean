/-
  DERIVED. GIVEN WITH THE SEED: THE CARDS: each row of YtcpcjocnnclcmaaGreatDoorRows.lean that lists a variable, with what it lists TIED to the program's text (the seventh form; the later family's looks); each row that meets fmt, with fmt's text TOLD by the authors' own Lean function (tested against real Go, not proved from fmt's source: count such statements apart). THE CARD IS WHAT COUNTS. Prove the row's statement (the work); the ties are given (YtcpcjocnnclcmaaGreatDoorTie.lean); close each card by the builder's one call (the guide's Derived/Test/ToyasCard.lean, 'card_holds'). Laid BY PROGRAM, IN A SANDBOX (cutbox-door.mjs). By AI agents, Wed Nov 11 2026. No macro, syntax, notation, axiom, sorry.
-/
import Derived.Test.YtcpcjocnnclcmaaGreatDoorRows
import GoSem.ClaimSeven
namespace Go.Proofs.YtcpcjocnnclcmaaGreatDoor
namespace Rows

/-- THE TIED CARD OF 'koinelaw27.StyleChecksLikeReference'. -/
def styleChecksLikeReferenceCard : Claim7 := { stood := { row := styleChecksLikeReferenceRow, standIns := [], harness := (true, "ab3654f7ebc4861af1819c46600f9810cdbb15afda3d487277c27623d76635e6"), looks := true }, kinds := [], alts := [], laidByText := true, laidKinds := [.data, .pinned, .data, .data, .data], laidTests := true, laidLooks := .later }
def StyleChecksLikeReferenceCardSaid : Prop := Claim7.holds Tryz.pinned (.plain (OpenSpec.ofChange styleChecksLikeReferenceSpec)) styleChecksLikeReferenceCard

/-- THE SECOND FORM's CARD OF 'koinelaw27.StyleChecksLikeReference'. -/
def styleChecksLikeReferenceUptoCard : Claim7 := { stood := { row := styleChecksLikeReferenceUptoRow, standIns := [], harness := (true, "ab3654f7ebc4861af1819c46600f9810cdbb15afda3d487277c27623d76635e6"), looks := true }, kinds := [], alts := [], laidByText := true, laidKinds := [.data, .pinned, .data, .data, .data], laidTests := true, laidLooks := .later }
def StyleChecksLikeReferenceUptoCardSaid : Prop := Claim7.holds Tryz.pinned (.plain (OpenSpec.upto styleChecksLikeReferenceSpec)) styleChecksLikeReferenceUptoCard
end Rows
end Go.Proofs.YtcpcjocnnclcmaaGreatDoor
