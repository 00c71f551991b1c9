/- Laws, part 30. No condition. -/
import Derived.Test.YtbonllhdlmegeaaGreatDoorL12
set_option linter.all false
set_option maxRecDepth 100000
set_option maxHeartbeats 4000000
noncomputable section
set_option maxHeartbeats 4000000
namespace Go.Va
open Go.Proofs
variable (hP:Snp Tryz.prog GLx PrL) (hB:rB.ok Tryz.prog GLx)
include hP hB
theorem q40 (h0:r0.ok Tryz.prog GLx) (h2:r2.ok Tryz.prog GLx) (h16:r16.ok Tryz.prog GLx) (h17:r17.ok Tryz.prog GLx) (h24:r24.ok Tryz.prog GLx) (h26:r26.ok Tryz.prog GLx) (h29:r29.ok Tryz.prog GLx) (h30:r30.ok Tryz.prog GLx) (h31:r31.ok Tryz.prog GLx) (h32:r32.ok Tryz.prog GLx) (h35:r35.ok Tryz.prog GLx) (h36:r36.ok Tryz.prog GLx) (h38:r38.ok Tryz.prog GLx):r40.ok Tryz.prog GLx:=MF.test_ok (evm_snd (np:=npL) TL7_ok hP (getF_ok ((((((((((((((hB.app h0).app h2).app h16).app h17).app h24).app h26).app h29).app h30).app h31).app h32).app h35).app h36).app h38))) 6000) (by kernel_rfl)
theorem q41 (h0:r0.ok Tryz.prog GLx) (h2:r2.ok Tryz.prog GLx) (h16:r16.ok Tryz.prog GLx) (h17:r17.ok Tryz.prog GLx) (h20:r20.ok Tryz.prog GLx) (h23:r23.ok Tryz.prog GLx) (h24:r24.ok Tryz.prog GLx) (h26:r26.ok Tryz.prog GLx) (h29:r29.ok Tryz.prog GLx) (h30:r30.ok Tryz.prog GLx) (h32:r32.ok Tryz.prog GLx) (h33:r33.ok Tryz.prog GLx) (h34:r34.ok Tryz.prog GLx) (h35:r35.ok Tryz.prog GLx) (h37:r37.ok Tryz.prog GLx) (h39:r39.ok Tryz.prog GLx):r41.ok Tryz.prog GLx:=MF.test_ok (evm_snd (np:=npL) TL7_ok hP (getF_ok (((((((((((((((((hB.app h0).app h2).app h16).app h17).app h20).app h23).app h24).app h26).app h29).app h30).app h32).app h33).app h34).app h35).app h37).app h39))) 6000) (by kernel_rfl)
end Go.Va
