/- Laws that ExtractBytes leans on, part 0. No condition of its own. -/
import Derived.Test.YtopldfpkgbkomaaGreatDoorRows
import Derived.Stop.Joined
import Derived.JoinedCond
import Derived.ProofKit
set_option linter.all false
set_option maxRecDepth 100000
set_option maxHeartbeats 4000000
noncomputable section
namespace Go.Proofs.YtopldfpkgbkomaaGreatDoor.extractBytes
theorem bC:joinedFacts Tryz.prog 8 Tryz.f8 (OpenSpec.ofChange Rows.extractBytesSpec).bare Rows.extractBytesRow=true:=by
 simp only[joinedFacts,Bool.and_eq_true]
 repeat' apply And.intro
 all_goals as_aux_lemma=>kernel_rfl
end Go.Proofs.YtopldfpkgbkomaaGreatDoor.extractBytes
