/- Laws, part 15. No condition. -/
import Derived.Test.YtbonllhdlmegeaaGreatDoorL12
set_option linter.all false
set_option maxRecDepth 100000
set_option maxHeartbeats 4000000
noncomputable section
set_option maxHeartbeats 4000000
namespace Go.Va
open Go.Proofs
variable (hP:Snp Tryz.prog GLx PrL) (hB:rB.ok Tryz.prog GLx)
include hP hB
theorem q6 (h0:r0.ok Tryz.prog GLx) (h1:r1.ok Tryz.prog GLx):r6.ok Tryz.prog GLx:=MF.test_ok (evm_snd (np:=npL) TL7_ok hP (getF_ok (((hB.app h0).app h1))) 6000) (by kernel_rfl)
theorem q7 (h0:r0.ok Tryz.prog GLx) (h1:r1.ok Tryz.prog GLx):r7.ok Tryz.prog GLx:=MF.test_ok (evm_snd (np:=npL) TL7_ok hP (getF_ok (((hB.app h0).app h1))) 6000) (by kernel_rfl)
theorem q8 (h0:r0.ok Tryz.prog GLx) (h1:r1.ok Tryz.prog GLx):r8.ok Tryz.prog GLx:=MF.test_ok (evm_snd (np:=npL) TL7_ok hP (getF_ok (((hB.app h0).app h1))) 6000) (by kernel_rfl)
theorem q9 (h0:r0.ok Tryz.prog GLx) (h1:r1.ok Tryz.prog GLx):r9.ok Tryz.prog GLx:=MF.test_ok (evm_snd (np:=npL) TL7_ok hP (getF_ok (((hB.app h0).app h1))) 6000) (by kernel_rfl)
end Go.Va
