/- Laws, part 6. No condition. -/
import Derived.Test.YtopldfpkgbkomaaGreatDoorL04
set_option linter.all false
set_option maxRecDepth 100000
set_option maxHeartbeats 4000000
noncomputable section
namespace Go.Va
open Go.Proofs
open Go.Proofs
open Go.Proofs
open Go.Proofs
end Go.Va
