/-
  DERIVED. GIVEN WITH THE SEED: THE PROGRAM's TIES (one call each: nine closed facts by the kernel) AND EACH ROW's TIE, after the 31st guide's Derived/Test/Toyas{Tie, Card}.lean. No idea stands in it: it is a product of the set-up. Laid BY PROGRAM, IN A SANDBOX (cutbox-door.mjs). By AI agents, Wed Nov 11 2026. No macro, syntax, notation, axiom, sorry.
-/
import Derived.Test.YtdfcjloangkbhaaGreatDoorRows
import Derived.LaidByTextLater
import Derived.SevenTiedAt
import Derived.LaidSub
import Derived.LaidOnce
namespace Go.Proofs.YtdfcjloangkbhaaGreatDoor
open Go
set_option maxRecDepth 100000
theorem seatTie1 : Tryz.prog.laidByTextLater [("priorart/civil.lengths", Rows.laid_priorart_civil_lengths), ("priorart/law.ranges", Rows.laid_priorart_law_ranges), ("priorart/acts.fields", Rows.laid_priorart_acts_fields), ("priorart/fees.events", Rows.laid_priorart_fees_events)] [.data, .wider, .data, .data] true :=
  Program.laidByTextLater_by_one 52 8 39 (by kernel_rfl) (by kernel_rfl) (by kernel_rfl) (by kernel_rfl) (by kernel_rfl) (by kernel_rfl) (fun _ _ => by kernel_rfl)
theorem noOwnUnsafe : Tryz.pinned.checked.prog.headLifts.contains "ownunsafe" = false := by kernel_rfl
theorem tie : Tryz.prog.laidByTextLater [("priorart/civil.lengths", Rows.laid_priorart_civil_lengths), ("priorart/law.ranges", Rows.laid_priorart_law_ranges), ("priorart/acts.fields", Rows.laid_priorart_acts_fields), ("priorart/fees.events", Rows.laid_priorart_fees_events)] [.data, .wider, .data, .data] true :=
  Program.laidByTextLater.sub seatTie1 ["priorart/civil.lengths", "priorart/law.ranges", "priorart/acts.fields", "priorart/fees.events"] (by kernel_rfl) (by kernel_rfl)
theorem rightsAgainst_row_tie : Rows.rightsAgainstRow.laidByTextAt .later Tryz.pinned [.data, .wider, .data, .data] true :=
  OpenClaim.laidByTextAt_later rfl rfl tie noOwnUnsafe
theorem rightsAgainstUpto_row_tie : Rows.rightsAgainstUptoRow.laidByTextAt .later Tryz.pinned [.data, .wider, .data, .data] true :=
  OpenClaim.laidByTextAt_later rfl rfl tie noOwnUnsafe
end Go.Proofs.YtdfcjloangkbhaaGreatDoor
