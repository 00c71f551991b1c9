/- Laws, part 22. No condition. -/
import Derived.Test.YtbonllhdlmegeaaGreatDoorL12
set_option linter.all false
set_option maxRecDepth 100000
set_option maxHeartbeats 4000000
noncomputable section
set_option maxHeartbeats 4000000
namespace Go.Va
open Go.Proofs
variable (hP:Snp Tryz.prog GLx PrL) (hB:rB.ok Tryz.prog GLx)
include hP hB
theorem q43:r43.ok Tryz.prog GLx:=MF.test_ok (evm_snd (np:=npL) TL7_ok hP (getF_ok hB) 6000) (by kernel_rfl)
theorem q44:r44.ok Tryz.prog GLx:=MF.test_ok (evm_snd (np:=npL) TL7_ok hP (getF_ok hB) 6000) (by kernel_rfl)
end Go.Va
