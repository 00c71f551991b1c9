/- Laws, part 29. No condition. -/
import Derived.Test.YtbonllhdlmegeaaGreatDoorL12
set_option linter.all false
set_option maxRecDepth 100000
set_option maxHeartbeats 4000000
noncomputable section
set_option maxHeartbeats 4000000
namespace Go.Va
open Go.Proofs
variable (hP:Snp Tryz.prog GLx PrL) (hB:rB.ok Tryz.prog GLx)
include hP hB
theorem q39 (h0:r0.ok Tryz.prog GLx) (h1:r1.ok Tryz.prog GLx) (h2:r2.ok Tryz.prog GLx) (h3:r3.ok Tryz.prog GLx) (h15:r15.ok Tryz.prog GLx) (h16:r16.ok Tryz.prog GLx) (h17:r17.ok Tryz.prog GLx) (h20:r20.ok Tryz.prog GLx) (h24:r24.ok Tryz.prog GLx) (h26:r26.ok Tryz.prog GLx) (h29:r29.ok Tryz.prog GLx) (h30:r30.ok Tryz.prog GLx) (h32:r32.ok Tryz.prog GLx) (h33:r33.ok Tryz.prog GLx) (h34:r34.ok Tryz.prog GLx) (h35:r35.ok Tryz.prog GLx):r39.ok Tryz.prog GLx:=MF.test_ok (evm_snd (np:=npL) TL7_ok hP (getF_ok (((((((((((((((((hB.app h0).app h1).app h2).app h3).app h15).app h16).app h17).app h20).app h24).app h26).app h29).app h30).app h32).app h33).app h34).app h35))) 6000) (by kernel_rfl)
end Go.Va
