/- Laws, part 0. No condition. -/
import Derived.Test.YtdfcjloangkbhaaGreatDoorRows
import Derived.Stop.Joined
import Derived.JoinedCond
import Derived.ProofKit
set_option linter.all false
set_option maxRecDepth 100000
set_option maxHeartbeats 4000000
noncomputable section
namespace Go.Proofs.YtdfcjloangkbhaaGreatDoor.rightsAgainst
set_option maxHeartbeats 8000000 in
theorem closed:joinedFacts Tryz.prog 3 Tryz.f3 (OpenSpec.ofChange Rows.rightsAgainstSpec).bare Rows.rightsAgainstRow=true:=by
 simp only[joinedFacts,Bool.and_eq_true]
 repeat' apply And.intro
 all_goals as_aux_lemma=>kernel_rfl
end Go.Proofs.YtdfcjloangkbhaaGreatDoor.rightsAgainst
