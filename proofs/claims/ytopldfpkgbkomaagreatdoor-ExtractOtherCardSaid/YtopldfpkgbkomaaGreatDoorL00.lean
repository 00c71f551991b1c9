/- Part 0 of the proof that ExtractOther returns true for every input and leaves its arguments alone. Condition: the variable that the row lists holds what the text of the program lays. Texts joined here: VrM. -/
import Derived.Test.YtopldfpkgbkomaaGreatDoorRows
import Derived.Stop.Joined
import Derived.JoinedCond
import Derived.ProofKit
set_option linter.all false
set_option maxRecDepth 100000
namespace Go.Proofs.YtopldfpkgbkomaaGreatDoor.extractOther
set_option maxHeartbeats 8000000 in
theorem AFR:joinedFacts Tryz.prog 7 Tryz.f7 (OpenSpec.ofChange Rows.extractOtherSpec).bare Rows.extractOtherRow=true:=by
 simp only[joinedFacts,Bool.and_eq_true]
 repeat' apply And.intro
 all_goals as_aux_lemma=>kernel_rfl
end Go.Proofs.YtopldfpkgbkomaaGreatDoor.extractOther
