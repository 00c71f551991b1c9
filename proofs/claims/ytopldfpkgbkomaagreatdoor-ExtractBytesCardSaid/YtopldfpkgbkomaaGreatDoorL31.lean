/- Laws that ExtractBytes leans on, part 31. No condition of its own. -/
import Derived.Test.YtopldfpkgbkomaaGreatDoorL28
set_option linter.all false
set_option maxRecDepth 100000
set_option maxHeartbeats 4000000
noncomputable section
namespace Go.Va
open Go.Proofs
open Go.Proofs
end Go.Va
