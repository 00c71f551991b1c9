/- Laws, part 21. No condition. -/
import Derived.Test.YtbonllhdlmegeaaGreatDoorL12
set_option linter.all false
set_option maxRecDepth 100000
set_option maxHeartbeats 4000000
noncomputable section
set_option maxHeartbeats 4000000
namespace Go.Va
open Go.Proofs
variable (hP:Snp Tryz.prog GLx PrL) (hB:rB.ok Tryz.prog GLx)
include hP hB
theorem q24 (h0:r0.ok Tryz.prog GLx) (h2:r2.ok Tryz.prog GLx) (h3:r3.ok Tryz.prog GLx) (h8:r8.ok Tryz.prog GLx) (h9:r9.ok Tryz.prog GLx) (h16:r16.ok Tryz.prog GLx) (h17:r17.ok Tryz.prog GLx) (h20:r20.ok Tryz.prog GLx):r24.ok Tryz.prog GLx:=MF.test_ok (evm_snd (np:=npL) TL7_ok hP (getF_ok (((((((((hB.app h0).app h2).app h3).app h8).app h9).app h16).app h17).app h20))) 6000) (by kernel_rfl)
theorem q25 (h0:r0.ok Tryz.prog GLx) (h2:r2.ok Tryz.prog GLx) (h3:r3.ok Tryz.prog GLx) (h8:r8.ok Tryz.prog GLx) (h16:r16.ok Tryz.prog GLx) (h17:r17.ok Tryz.prog GLx):r25.ok Tryz.prog GLx:=MF.test_ok (evm_snd (np:=npL) TL7_ok hP (getF_ok (((((((hB.app h0).app h2).app h3).app h8).app h16).app h17))) 6000) (by kernel_rfl)
end Go.Va
