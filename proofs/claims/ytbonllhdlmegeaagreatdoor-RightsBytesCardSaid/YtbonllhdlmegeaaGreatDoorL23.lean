/- Laws, part 23. No condition. -/
import Derived.Test.YtbonllhdlmegeaaGreatDoorL22
set_option linter.all false
set_option maxRecDepth 100000
set_option maxHeartbeats 4000000
noncomputable section
set_option maxHeartbeats 4000000
namespace Go.Va
open Go.Proofs
variable (hP:Snp Tryz.prog GLx PrL) (hB:rB.ok Tryz.prog GLx)
include hP hB
theorem q26 (h0:r0.ok Tryz.prog GLx) (h2:r2.ok Tryz.prog GLx) (h3:r3.ok Tryz.prog GLx) (h15:r15.ok Tryz.prog GLx) (h17:r17.ok Tryz.prog GLx) (h20:r20.ok Tryz.prog GLx) (h24:r24.ok Tryz.prog GLx) (h25:r25.ok Tryz.prog GLx):r26.ok Tryz.prog GLx:=MF.test_ok (evm_snd (np:=npL) TL7_ok hP (getF_ok (((((((((hB.app h0).app h2).app h3).app h15).app h17).app h20).app h24).app h25))) 6000) (by kernel_rfl)
theorem q27 (h0:r0.ok Tryz.prog GLx) (h1:r1.ok Tryz.prog GLx) (h2:r2.ok Tryz.prog GLx) (h3:r3.ok Tryz.prog GLx) (h4:r4.ok Tryz.prog GLx) (h5:r5.ok Tryz.prog GLx) (h6:r6.ok Tryz.prog GLx) (h7:r7.ok Tryz.prog GLx) (h8:r8.ok Tryz.prog GLx) (h9:r9.ok Tryz.prog GLx) (h10:r10.ok Tryz.prog GLx) (h11:r11.ok Tryz.prog GLx) (h12:r12.ok Tryz.prog GLx) (h13:r13.ok Tryz.prog GLx) (h14:r14.ok Tryz.prog GLx) (h15:r15.ok Tryz.prog GLx) (h16:r16.ok Tryz.prog GLx) (h17:r17.ok Tryz.prog GLx) (h18:r18.ok Tryz.prog GLx) (h19:r19.ok Tryz.prog GLx) (h20:r20.ok Tryz.prog GLx) (h21:r21.ok Tryz.prog GLx) (h22:r22.ok Tryz.prog GLx) (h23:r23.ok Tryz.prog GLx) (h24:r24.ok Tryz.prog GLx) (h25:r25.ok Tryz.prog GLx) (h43:r43.ok Tryz.prog GLx):r27.ok Tryz.prog GLx:=MF.test_ok (evm_snd (np:=npL) TL7_ok hP (getF_ok ((((((((((((((((((((((((((((hB.app h43).app h0).app h1).app h2).app h3).app h4).app h5).app h6).app h7).app h8).app h9).app h10).app h11).app h12).app h13).app h14).app h15).app h16).app h17).app h18).app h19).app h20).app h21).app h22).app h23).app h24).app h25))) 6000) (by kernel_rfl)
end Go.Va
