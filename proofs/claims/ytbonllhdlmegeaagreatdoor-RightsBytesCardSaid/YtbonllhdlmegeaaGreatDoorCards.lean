/-
  DERIVED. GIVEN WITH THE SEED: THE CARDS: each row of YtbonllhdlmegeaaGreatDoorRows.lean that lists a variable, with what it lists TIED to the program's text (the seventh form; the later family's looks); each row that meets fmt, with fmt's text TOLD by the authors' own Lean function (tested against real Go, not proved from fmt's source: count such statements apart). THE CARD IS WHAT COUNTS. Prove the row's statement (the work); the ties are given (YtbonllhdlmegeaaGreatDoorTie.lean); close each card by the builder's one call (the guide's Derived/Test/ToyasCard.lean, 'card_holds'). Laid BY PROGRAM, IN A SANDBOX (cutbox-door.mjs). By AI agents, Wed Nov 11 2026. No macro, syntax, notation, axiom, sorry.
-/
import Derived.Test.YtbonllhdlmegeaaGreatDoorRows
import GoSem.ClaimSeven
namespace Go.Proofs.YtbonllhdlmegeaaGreatDoor
namespace Rows

/-- THE TIED CARD OF 'priorartlaw27.RightsBytes'. -/
def rightsBytesCard : Claim7 := { stood := { row := rightsBytesRow, standIns := [], harness := (true, "5b84d2220d417c5d5e8806af41592e814b4d76ec4830fcef89c6b65d1661f77b"), looks := false }, kinds := [], alts := [], laidByText := true, laidKinds := [.data, .wider, .data, .data], laidTests := true, laidLooks := .later }
def RightsBytesCardSaid : Prop := Claim7.holds Tryz.pinned (.plain (OpenSpec.ofChange rightsBytesSpec)) rightsBytesCard

/-- THE SECOND FORM's CARD OF 'priorartlaw27.RightsBytes'. -/
def rightsBytesUptoCard : Claim7 := { stood := { row := rightsBytesUptoRow, standIns := [], harness := (true, "5b84d2220d417c5d5e8806af41592e814b4d76ec4830fcef89c6b65d1661f77b"), looks := false }, kinds := [], alts := [], laidByText := true, laidKinds := [.data, .wider, .data, .data], laidTests := true, laidLooks := .later }
def RightsBytesUptoCardSaid : Prop := Claim7.holds Tryz.pinned (.plain (OpenSpec.upto rightsBytesSpec)) rightsBytesUptoCard
end Rows
end Go.Proofs.YtbonllhdlmegeaaGreatDoor
