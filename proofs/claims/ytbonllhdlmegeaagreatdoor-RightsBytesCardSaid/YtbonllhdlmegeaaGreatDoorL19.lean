/- Laws, part 19. No condition. -/
import Derived.Test.YtbonllhdlmegeaaGreatDoorL12
set_option linter.all false
set_option maxRecDepth 100000
set_option maxHeartbeats 4000000
noncomputable section
set_option maxHeartbeats 4000000
namespace Go.Va
open Go.Proofs
variable (hP:Snp Tryz.prog GLx PrL) (hB:rB.ok Tryz.prog GLx)
include hP hB
theorem q19 (h0:r0.ok Tryz.prog GLx) (h1:r1.ok Tryz.prog GLx) (h12:r12.ok Tryz.prog GLx) (h13:r13.ok Tryz.prog GLx) (h14:r14.ok Tryz.prog GLx):r19.ok Tryz.prog GLx:=MF.test_ok (evm_snd (np:=npL) TL7_ok hP (getF_ok ((((((hB.app h0).app h1).app h12).app h13).app h14))) 6000) (by kernel_rfl)
theorem q20 (h0:r0.ok Tryz.prog GLx) (h1:r1.ok Tryz.prog GLx) (h2:r2.ok Tryz.prog GLx) (h8:r8.ok Tryz.prog GLx) (h14:r14.ok Tryz.prog GLx) (h15:r15.ok Tryz.prog GLx):r20.ok Tryz.prog GLx:=MF.test_ok (evm_snd (np:=npL) TL7_ok hP (getF_ok (((((((hB.app h0).app h1).app h2).app h8).app h14).app h15))) 6000) (by kernel_rfl)
theorem q21 (h0:r0.ok Tryz.prog GLx) (h1:r1.ok Tryz.prog GLx) (h8:r8.ok Tryz.prog GLx):r21.ok Tryz.prog GLx:=MF.test_ok (evm_snd (np:=npL) TL7_ok hP (getF_ok ((((hB.app h0).app h1).app h8))) 6000) (by kernel_rfl)
theorem q22 (h0:r0.ok Tryz.prog GLx) (h1:r1.ok Tryz.prog GLx) (h8:r8.ok Tryz.prog GLx):r22.ok Tryz.prog GLx:=MF.test_ok (evm_snd (np:=npL) TL7_ok hP (getF_ok ((((hB.app h0).app h1).app h8))) 6000) (by kernel_rfl)
end Go.Va
