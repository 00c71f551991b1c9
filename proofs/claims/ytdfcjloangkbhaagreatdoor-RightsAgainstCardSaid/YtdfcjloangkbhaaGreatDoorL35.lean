/- Part 35 of the proof that RightsAgainst returns true for every input and leaves its arguments alone. Condition: the variable that the row lists holds what the text of the program lays. -/
import Derived.Test.YtdfcjloangkbhaaGreatDoorL06
import Derived.Test.YtdfcjloangkbhaaGreatDoorL34
set_option linter.all false
set_option maxRecDepth 100000
set_option maxHeartbeats 4000000
noncomputable section
namespace Go.Proofs.YtdfcjloangkbhaaGreatDoor.rightsAgainst
open Go.ChangeShapes Go.WideShapes Go.ChangeAt Go.RowKit Go.Va
theorem noGoes:Tryz.prog.funcs.any Func.goes=false:=by kernel_rfl
theorem card:Rows.RightsAgainstCardSaid:=by
 refine Claim7.holds_tied_plain_at .later [] _ _ _ _ said (λ_ h=>by cases h) ?_ (λ_ h=>by cases h) rightsAgainst_row_tie rfl ⟨rfl,rfl⟩ ?_ rfl plain ?_
 ·as_aux_lemma=>kernel_rfl
 ·as_aux_lemma=>kernel_rfl
 ·exact(goesBy_none noGoes _ rfl).symm
end Go.Proofs.YtdfcjloangkbhaaGreatDoor.rightsAgainst
