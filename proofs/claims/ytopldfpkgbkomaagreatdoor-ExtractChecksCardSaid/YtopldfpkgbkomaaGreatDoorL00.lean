/- Laws, part 0. No condition. -/
import Derived.Test.YtopldfpkgbkomaaGreatDoorRows
import Derived.Stop.Joined
import Derived.JoinedCond
import Derived.ProofKit
set_option linter.all false
set_option maxRecDepth 100000
set_option maxHeartbeats 4000000
noncomputable section
namespace Go.Proofs.YtopldfpkgbkomaaGreatDoor.extractChecks
theorem bG:joinedFacts Tryz.prog 6 Tryz.f6 (OpenSpec.ofChange Rows.extractChecksSpec).bare Rows.extractChecksRow=true:=by
 simp only[joinedFacts,Bool.and_eq_true]
 repeat' apply And.intro
 all_goals as_aux_lemma=>kernel_rfl
end Go.Proofs.YtopldfpkgbkomaaGreatDoor.extractChecks
