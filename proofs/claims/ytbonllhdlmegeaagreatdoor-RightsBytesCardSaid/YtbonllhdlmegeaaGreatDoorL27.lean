/- Laws, part 27. No condition. -/
import Derived.Test.YtbonllhdlmegeaaGreatDoorL12
set_option linter.all false
set_option maxRecDepth 100000
set_option maxHeartbeats 4000000
noncomputable section
set_option maxHeartbeats 4000000
namespace Go.Va
open Go.Proofs
variable (hP:Snp Tryz.prog GLx PrL) (hB:rB.ok Tryz.prog GLx)
include hP hB
theorem q34 (h16:r16.ok Tryz.prog GLx) (h29:r29.ok Tryz.prog GLx):r34.ok Tryz.prog GLx:=MF.test_ok (evm_snd (np:=npL) TL7_ok hP (getF_ok (((hB.app h16).app h29))) 6000) (by kernel_rfl)
theorem q35 (h0:r0.ok Tryz.prog GLx) (h2:r2.ok Tryz.prog GLx) (h16:r16.ok Tryz.prog GLx) (h24:r24.ok Tryz.prog GLx) (h29:r29.ok Tryz.prog GLx):r35.ok Tryz.prog GLx:=MF.test_ok (evm_snd (np:=npL) TL7_ok hP (getF_ok ((((((hB.app h0).app h2).app h16).app h24).app h29))) 6000) (by kernel_rfl)
end Go.Va
