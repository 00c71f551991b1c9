/- Part 35 of the proof that ExtractAnswers returns true for every input and leaves its arguments alone. Condition: the variable that the row lists holds what the text of the program lays. -/
import Derived.Test.YtopldfpkgbkomaaGreatDoorL34
set_option linter.all false
set_option maxRecDepth 100000
set_option maxHeartbeats 4000000
noncomputable section
namespace Go.Proofs.YtopldfpkgbkomaaGreatDoor.extractAnswers
open Go.ChangeShapes Go.WideShapes Go.ChangeAt Go.RowKit Go.Va
theorem card:Rows.ExtractAnswersCardSaid:=by
 refine Claim7.holds_tied_plain_at .later [] _ _ _ _ dq (λ_ h=>by cases h) ?_ (λ_ h=>by cases h) extractAnswers_row_tie rfl ⟨rfl,rfl⟩ ?_ rfl N9 ?_
 all_goals as_aux_lemma=>kernel_rfl
end Go.Proofs.YtopldfpkgbkomaaGreatDoor.extractAnswers
