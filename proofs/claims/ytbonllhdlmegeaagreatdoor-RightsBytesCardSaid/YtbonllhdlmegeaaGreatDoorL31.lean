/- Laws, part 31. No condition. -/
import Derived.Test.YtbonllhdlmegeaaGreatDoorL12
set_option linter.all false
set_option maxRecDepth 100000
set_option maxHeartbeats 4000000
noncomputable section
set_option maxHeartbeats 4000000
namespace Go.Va
open Go.Proofs
variable (hP:Snp Tryz.prog GLx PrL) (hB:rB.ok Tryz.prog GLx)
include hP hB
theorem q42 (h0:r0.ok Tryz.prog GLx) (h2:r2.ok Tryz.prog GLx) (h17:r17.ok Tryz.prog GLx) (h24:r24.ok Tryz.prog GLx) (h26:r26.ok Tryz.prog GLx) (h40:r40.ok Tryz.prog GLx) (h41:r41.ok Tryz.prog GLx):r42.ok Tryz.prog GLx:=MF.test_ok (evm_snd (np:=npL) TL7_ok hP (getF_ok ((((((((hB.app h0).app h2).app h17).app h24).app h26).app h40).app h41))) 6000) (by kernel_rfl)
end Go.Va
