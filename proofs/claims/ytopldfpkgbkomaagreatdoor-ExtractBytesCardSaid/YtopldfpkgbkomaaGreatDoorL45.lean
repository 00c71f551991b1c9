/- Part 45 of the proof that ExtractBytes returns true for every input and leaves its arguments alone. Condition: the variable that the row lists holds what the text of the program lays. -/
import Derived.Test.YtopldfpkgbkomaaGreatDoorL44
set_option linter.all false
set_option maxRecDepth 100000
set_option maxHeartbeats 4000000
noncomputable section
namespace Go.Proofs.YtopldfpkgbkomaaGreatDoor.extractBytes
open Go.ChangeShapes Go.WideShapes Go.ChangeAt Go.RowKit Go.Va
theorem card:Rows.ExtractBytesCardSaid:=by
 refine Claim7.holds_tied_plain_at .later [] _ _ _ _ io (λ_ h=>by cases h) ?_ (λ_ h=>by cases h) extractBytes_row_tie rfl ⟨rfl,rfl⟩ ?_ rfl O5 ?_
 all_goals as_aux_lemma=>kernel_rfl
end Go.Proofs.YtopldfpkgbkomaaGreatDoor.extractBytes
