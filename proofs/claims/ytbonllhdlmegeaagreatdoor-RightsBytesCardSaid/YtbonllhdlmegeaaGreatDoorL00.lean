/- Laws, part 0. No condition. -/
import Derived.Test.YtbonllhdlmegeaaGreatDoorRows
import Derived.LaidByTextLater
import Derived.SevenTiedAt
import Derived.LaidSub
import Derived.LaidOnce
import Derived.KernelRfl
set_option linter.all false
set_option maxRecDepth 100000
set_option maxHeartbeats 4000000
noncomputable section
namespace Go.Proofs.YtbonllhdlmegeaaGreatDoor.rightsBytes
open Go
theorem ownTie:Tryz.prog.laidByTextLater [("priorart/civil.lengths",Rows.laid_priorart_civil_lengths),("priorart/law.ranges",Rows.laid_priorart_law_ranges),("priorart/acts.fields",Rows.laid_priorart_acts_fields),("priorart/fees.events",Rows.laid_priorart_fees_events)] [.data,.wider,.data,.data] true:=
 Program.laidByTextLater_by_one 52 8 39 (by as_aux_lemma=>kernel_rfl) (by as_aux_lemma=>kernel_rfl) (by as_aux_lemma=>kernel_rfl) (by as_aux_lemma=>kernel_rfl) (by as_aux_lemma=>kernel_rfl) (by as_aux_lemma=>kernel_rfl) (λ_ _=>by as_aux_lemma=>kernel_rfl)
theorem ownUnsafe:Tryz.pinned.checked.prog.headLifts.contains "ownunsafe" =false:=by kernel_rfl
theorem ownTie2:Tryz.prog.laidByTextLater [("priorart/civil.lengths",Rows.laid_priorart_civil_lengths),("priorart/law.ranges",Rows.laid_priorart_law_ranges),("priorart/acts.fields",Rows.laid_priorart_acts_fields),("priorart/fees.events",Rows.laid_priorart_fees_events)] [.data,.wider,.data,.data] true:=
 Program.laidByTextLater.sub ownTie ["priorart/civil.lengths", "priorart/law.ranges", "priorart/acts.fields", "priorart/fees.events"] (by as_aux_lemma=>kernel_rfl) (by as_aux_lemma=>kernel_rfl)
theorem rowTie:Rows.rightsBytesRow.laidByTextAt .later Tryz.pinned [.data,.wider,.data,.data] true:=
 OpenClaim.laidByTextAt_later rfl rfl ownTie2 ownUnsafe
end Go.Proofs.YtbonllhdlmegeaaGreatDoor.rightsBytes
