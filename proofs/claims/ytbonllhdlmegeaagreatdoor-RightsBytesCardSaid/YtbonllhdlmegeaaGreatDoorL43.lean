/- Part 43 of the proof that RightsBytes returns true for every input and leaves its arguments alone. Condition: the variable that the row lists holds what the text of the program lays. -/
import Derived.Test.YtbonllhdlmegeaaGreatDoorL00
import Derived.Test.YtbonllhdlmegeaaGreatDoorL05
import Derived.Test.YtbonllhdlmegeaaGreatDoorL42
import Derived.Test.YtbonllhdlmegeaaGreatDoorL44
import Derived.Test.YtbonllhdlmegeaaGreatDoorL46
import Derived.Test.YtbonllhdlmegeaaGreatDoorL47
set_option linter.all false
set_option maxRecDepth 100000
set_option maxHeartbeats 4000000
noncomputable section
namespace Go.Proofs.YtbonllhdlmegeaaGreatDoor.rightsBytes
open Go.ChangeShapes Go.WideShapes Go.ChangeAt Go.RowKit Go.Va
theorem noGoes:Tryz.prog.funcs.any Func.goes=false:=by kernel_rfl
theorem card:Rows.RightsBytesCardSaid:=by
 refine Claim7.holds_tied_plain_at .later [] _ _ _ _ (said (closed0 named_ok inPlace_ok unf_ok rec_ok)) (λ_ h=>by cases h) ?_ (λ_ h=>by cases h) rowTie rfl ⟨rfl,rfl⟩ ?_ rfl plain ?_
 ·as_aux_lemma=>kernel_rfl
 ·as_aux_lemma=>kernel_rfl
 ·exact(goesBy_none noGoes _ rfl).symm
end Go.Proofs.YtbonllhdlmegeaaGreatDoor.rightsBytes
