/-
  DERIVED. GIVEN WITH THE SEED: THE CARDS: each row of YtopldfpkgbkomaaGreatDoorRows.lean that lists a variable, with what it lists TIED to the program's text (the seventh form; the later family's looks); each row that meets fmt, with fmt's text TOLD by the authors' own Lean function (tested against real Go, not proved from fmt's source: count such statements apart). THE CARD IS WHAT COUNTS. Prove the row's statement (the work); the ties are given (YtopldfpkgbkomaaGreatDoorTie.lean); close each card by the builder's one call (the guide's Derived/Test/ToyasCard.lean, 'card_holds'). Laid BY PROGRAM, IN A SANDBOX (cutbox-door.mjs). By AI agents, Wed Nov 11 2026. No macro, syntax, notation, axiom, sorry.
-/
import Derived.Test.YtopldfpkgbkomaaGreatDoorRows
import GoSem.ClaimSeven
namespace Go.Proofs.YtopldfpkgbkomaaGreatDoor
namespace Rows

/-- THE TIED CARD OF 'priorartlaw35.ExtractMakes'. -/
def extractMakesCard : Claim7 := { stood := { row := extractMakesRow, standIns := [], harness := (true, "6023295555311bc4f7b190473c84162e1ef4dc7b56ec64fac667bdb7028dbbd5"), looks := false }, kinds := [], alts := [], laidByText := true, laidKinds := [.data], laidTests := true, laidLooks := .later }
def ExtractMakesCardSaid : Prop := Claim7.holds Tryz.pinned (.plain (OpenSpec.ofChange extractMakesSpec)) extractMakesCard

/-- THE TIED CARD OF 'priorartlaw35.ExtractBetter'. -/
def extractBetterCard : Claim7 := { stood := { row := extractBetterRow, standIns := [], harness := (true, "6023295555311bc4f7b190473c84162e1ef4dc7b56ec64fac667bdb7028dbbd5"), looks := false }, kinds := [], alts := [], laidByText := true, laidKinds := [.data], laidTests := true, laidLooks := .later }
def ExtractBetterCardSaid : Prop := Claim7.holds Tryz.pinned (.plain (OpenSpec.ofChange extractBetterSpec)) extractBetterCard

/-- THE TIED CARD OF 'priorartlaw35.ExtractAnswers'. -/
def extractAnswersCard : Claim7 := { stood := { row := extractAnswersRow, standIns := [], harness := (true, "6023295555311bc4f7b190473c84162e1ef4dc7b56ec64fac667bdb7028dbbd5"), looks := false }, kinds := [], alts := [], laidByText := true, laidKinds := [.data], laidTests := true, laidLooks := .later }
def ExtractAnswersCardSaid : Prop := Claim7.holds Tryz.pinned (.plain (OpenSpec.ofChange extractAnswersSpec)) extractAnswersCard

/-- THE TIED CARD OF 'priorartlaw35.ExtractChecks'. -/
def extractChecksCard : Claim7 := { stood := { row := extractChecksRow, standIns := [], harness := (true, "6023295555311bc4f7b190473c84162e1ef4dc7b56ec64fac667bdb7028dbbd5"), looks := false }, kinds := [], alts := [], laidByText := true, laidKinds := [.data], laidTests := true, laidLooks := .later }
def ExtractChecksCardSaid : Prop := Claim7.holds Tryz.pinned (.plain (OpenSpec.ofChange extractChecksSpec)) extractChecksCard

/-- THE TIED CARD OF 'priorartlaw35.ExtractOther'. -/
def extractOtherCard : Claim7 := { stood := { row := extractOtherRow, standIns := [], harness := (true, "6023295555311bc4f7b190473c84162e1ef4dc7b56ec64fac667bdb7028dbbd5"), looks := false }, kinds := [], alts := [], laidByText := true, laidKinds := [.data], laidTests := true, laidLooks := .later }
def ExtractOtherCardSaid : Prop := Claim7.holds Tryz.pinned (.plain (OpenSpec.ofChange extractOtherSpec)) extractOtherCard

/-- THE TIED CARD OF 'priorartlaw35.ExtractBytes'. -/
def extractBytesCard : Claim7 := { stood := { row := extractBytesRow, standIns := [], harness := (true, "6023295555311bc4f7b190473c84162e1ef4dc7b56ec64fac667bdb7028dbbd5"), looks := false }, kinds := [], alts := [], laidByText := true, laidKinds := [.data], laidTests := true, laidLooks := .later }
def ExtractBytesCardSaid : Prop := Claim7.holds Tryz.pinned (.plain (OpenSpec.ofChange extractBytesSpec)) extractBytesCard

/-- THE SECOND FORM's CARD OF 'priorartlaw35.ExtractMakes'. -/
def extractMakesUptoCard : Claim7 := { stood := { row := extractMakesUptoRow, standIns := [], harness := (true, "6023295555311bc4f7b190473c84162e1ef4dc7b56ec64fac667bdb7028dbbd5"), looks := false }, kinds := [], alts := [], laidByText := true, laidKinds := [.data], laidTests := true, laidLooks := .later }
def ExtractMakesUptoCardSaid : Prop := Claim7.holds Tryz.pinned (.plain (OpenSpec.upto extractMakesSpec)) extractMakesUptoCard

/-- THE SECOND FORM's CARD OF 'priorartlaw35.ExtractBetter'. -/
def extractBetterUptoCard : Claim7 := { stood := { row := extractBetterUptoRow, standIns := [], harness := (true, "6023295555311bc4f7b190473c84162e1ef4dc7b56ec64fac667bdb7028dbbd5"), looks := false }, kinds := [], alts := [], laidByText := true, laidKinds := [.data], laidTests := true, laidLooks := .later }
def ExtractBetterUptoCardSaid : Prop := Claim7.holds Tryz.pinned (.plain (OpenSpec.upto extractBetterSpec)) extractBetterUptoCard

/-- THE SECOND FORM's CARD OF 'priorartlaw35.ExtractAnswers'. -/
def extractAnswersUptoCard : Claim7 := { stood := { row := extractAnswersUptoRow, standIns := [], harness := (true, "6023295555311bc4f7b190473c84162e1ef4dc7b56ec64fac667bdb7028dbbd5"), looks := false }, kinds := [], alts := [], laidByText := true, laidKinds := [.data], laidTests := true, laidLooks := .later }
def ExtractAnswersUptoCardSaid : Prop := Claim7.holds Tryz.pinned (.plain (OpenSpec.upto extractAnswersSpec)) extractAnswersUptoCard

/-- THE SECOND FORM's CARD OF 'priorartlaw35.ExtractChecks'. -/
def extractChecksUptoCard : Claim7 := { stood := { row := extractChecksUptoRow, standIns := [], harness := (true, "6023295555311bc4f7b190473c84162e1ef4dc7b56ec64fac667bdb7028dbbd5"), looks := false }, kinds := [], alts := [], laidByText := true, laidKinds := [.data], laidTests := true, laidLooks := .later }
def ExtractChecksUptoCardSaid : Prop := Claim7.holds Tryz.pinned (.plain (OpenSpec.upto extractChecksSpec)) extractChecksUptoCard

/-- THE SECOND FORM's CARD OF 'priorartlaw35.ExtractOther'. -/
def extractOtherUptoCard : Claim7 := { stood := { row := extractOtherUptoRow, standIns := [], harness := (true, "6023295555311bc4f7b190473c84162e1ef4dc7b56ec64fac667bdb7028dbbd5"), looks := false }, kinds := [], alts := [], laidByText := true, laidKinds := [.data], laidTests := true, laidLooks := .later }
def ExtractOtherUptoCardSaid : Prop := Claim7.holds Tryz.pinned (.plain (OpenSpec.upto extractOtherSpec)) extractOtherUptoCard

/-- THE SECOND FORM's CARD OF 'priorartlaw35.ExtractBytes'. -/
def extractBytesUptoCard : Claim7 := { stood := { row := extractBytesUptoRow, standIns := [], harness := (true, "6023295555311bc4f7b190473c84162e1ef4dc7b56ec64fac667bdb7028dbbd5"), looks := false }, kinds := [], alts := [], laidByText := true, laidKinds := [.data], laidTests := true, laidLooks := .later }
def ExtractBytesUptoCardSaid : Prop := Claim7.holds Tryz.pinned (.plain (OpenSpec.upto extractBytesSpec)) extractBytesUptoCard
end Rows
end Go.Proofs.YtopldfpkgbkomaaGreatDoor
