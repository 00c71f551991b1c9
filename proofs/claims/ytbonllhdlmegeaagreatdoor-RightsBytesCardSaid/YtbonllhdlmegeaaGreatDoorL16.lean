/- Laws, part 16. No condition. -/
import Derived.Test.YtbonllhdlmegeaaGreatDoorL12
set_option linter.all false
set_option maxRecDepth 100000
set_option maxHeartbeats 4000000
noncomputable section
set_option maxHeartbeats 4000000
namespace Go.Va
open Go.Proofs
variable (hP:Snp Tryz.prog GLx PrL) (hB:rB.ok Tryz.prog GLx)
include hP hB
theorem q10 (h0:r0.ok Tryz.prog GLx) (h1:r1.ok Tryz.prog GLx):r10.ok Tryz.prog GLx:=MF.test_ok (evm_snd (np:=npL) TL7_ok hP (getF_ok (((hB.app h0).app h1))) 6000) (by kernel_rfl)
theorem q11 (h0:r0.ok Tryz.prog GLx) (h1:r1.ok Tryz.prog GLx):r11.ok Tryz.prog GLx:=MF.test_ok (evm_snd (np:=npL) TL7_ok hP (getF_ok (((hB.app h0).app h1))) 6000) (by kernel_rfl)
theorem q12 (h0:r0.ok Tryz.prog GLx) (h1:r1.ok Tryz.prog GLx):r12.ok Tryz.prog GLx:=MF.test_ok (evm_snd (np:=npL) TL7_ok hP (getF_ok (((hB.app h0).app h1))) 6000) (by kernel_rfl)
theorem q13 (h0:r0.ok Tryz.prog GLx) (h1:r1.ok Tryz.prog GLx):r13.ok Tryz.prog GLx:=MF.test_ok (evm_snd (np:=npL) TL7_ok hP (getF_ok (((hB.app h0).app h1))) 6000) (by kernel_rfl)
end Go.Va
