/- Part 16 of the proof that ExtractChecks returns true for every input and leaves its arguments alone. Condition: the variable that the row lists holds what the text of the program lays. -/
import Derived.Test.YtopldfpkgbkomaaGreatDoorL15
set_option linter.all false
set_option maxRecDepth 100000
set_option maxHeartbeats 4000000
noncomputable section
namespace Go.Proofs.YtopldfpkgbkomaaGreatDoor.extractChecks
open Go.ChangeShapes Go.WideShapes Go.ChangeAt Go.RowKit Go.Va
theorem card:Rows.ExtractChecksCardSaid:=by
 refine Claim7.holds_tied_plain_at .later [] _ _ _ _ jS (λ_ h=>by cases h) ?_ (λ_ h=>by cases h) extractChecks_row_tie rfl ⟨rfl,rfl⟩ ?_ rfl P2 ?_
 all_goals as_aux_lemma=>kernel_rfl
end Go.Proofs.YtopldfpkgbkomaaGreatDoor.extractChecks
