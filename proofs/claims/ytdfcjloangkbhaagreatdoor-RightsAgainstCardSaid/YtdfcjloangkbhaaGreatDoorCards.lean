/-
  DERIVED. GIVEN WITH THE SEED: THE CARDS: each row of YtdfcjloangkbhaaGreatDoorRows.lean that lists a variable, with what it lists TIED to the program's text (the seventh form; the later family's looks); each row that meets fmt, with fmt's text TOLD by the authors' own Lean function (tested against real Go, not proved from fmt's source: count such statements apart). THE CARD IS WHAT COUNTS. Prove the row's statement (the work); the ties are given (YtdfcjloangkbhaaGreatDoorTie.lean); close each card by the builder's one call (the guide's Derived/Test/ToyasCard.lean, 'card_holds'). Laid BY PROGRAM, IN A SANDBOX (cutbox-door.mjs). By AI agents, Wed Nov 11 2026. No macro, syntax, notation, axiom, sorry.
-/
import Derived.Test.YtdfcjloangkbhaaGreatDoorRows
import GoSem.ClaimSeven
namespace Go.Proofs.YtdfcjloangkbhaaGreatDoor
namespace Rows

/-- THE TIED CARD OF 'priorartlaw27.RightsAgainst'. -/
def rightsAgainstCard : Claim7 := { stood := { row := rightsAgainstRow, standIns := [], harness := (true, "972c4af0ed2a37aea8b09bfea0494bf9be68ddc0d55ee7712d17f6a6c1c7919a"), looks := false }, kinds := [], alts := [], laidByText := true, laidKinds := [.data, .wider, .data, .data], laidTests := true, laidLooks := .later }
def RightsAgainstCardSaid : Prop := Claim7.holds Tryz.pinned (.plain (OpenSpec.ofChange rightsAgainstSpec)) rightsAgainstCard

/-- THE SECOND FORM's CARD OF 'priorartlaw27.RightsAgainst'. -/
def rightsAgainstUptoCard : Claim7 := { stood := { row := rightsAgainstUptoRow, standIns := [], harness := (true, "972c4af0ed2a37aea8b09bfea0494bf9be68ddc0d55ee7712d17f6a6c1c7919a"), looks := false }, kinds := [], alts := [], laidByText := true, laidKinds := [.data, .wider, .data, .data], laidTests := true, laidLooks := .later }
def RightsAgainstUptoCardSaid : Prop := Claim7.holds Tryz.pinned (.plain (OpenSpec.upto rightsAgainstSpec)) rightsAgainstUptoCard
end Rows
end Go.Proofs.YtdfcjloangkbhaaGreatDoor
