/- Part 5 of the proof that ExtractMakes returns true for every input and leaves its arguments alone. Condition: the variable that the row lists holds what the text of the program lays. Texts joined here: VcF VcG VcH VcI VcJ VcK VcL Vt VwGb VaT VwE VwB VwC VwF VwG VwH VwI VwJ VwK VwL VwM VwN VwO VsB VwQ. -/
import Derived.KernelRfl
import Derived.Test.YtopldfpkgbkomaaGreatDoorL02
import Derived.Test.YtopldfpkgbkomaaGreatDoorL04
set_option linter.all false
namespace Go.Va
open Go.Proofs
def c174r0 : List GI := [xo (.mv 2 (.c (.own 47 1 [])))]
def c174r1 : List GI := [xo (.mv 3 (.c (.own 47 1 [])))]
def c174r2 : List GI := [xo (.mv 4 (xi 0))]
def c174r3 : List GI := [xm 7 4,
 xm 8 0,
 xp 9 (.alen (xt 8)),
 xb 10 .lss (xt 7) (xt 9)]
def c174r5 : List GI := [xo (.mv 5 (xj 0))]
def c174r6 : List GI := [xm 13 4,
 xb 14 .add (xt 13) (xi 8),
 xm 15 0,
 xp 16 (.alen (xt 15)),
 xp 17 (.minmax false (xt 14) (xt 16)),
 xb 18 .sub (xt 17) (xi 1),
 xm 6 18]
def c174r7 : List GI := [xm 19 6,
 xm 20 4,
 xb 21 .geq (xt 19) (xt 20)]
def c174r9 : List GI := [xm 24 5,
 xb 25 .mul (xj 256) (xt 24),
 xm 26 0,
 xm 27 6,
 xp 28 (.iaddr (xt 26) (xt 27) 1),
 xl 29 28 1,
 xp 30 (.cint .u64 (xt 29)),
 xb 31 .add (xt 25) (xt 30),
 xm 5 31]
def c174r8 : List GI := [xm 22 6,
 xb 23 .sub (xt 22) (xi 1),
 xm 6 23]
def c174l1 : AC := (.seq (.seq (.reg c174r7 [0, 3, 4, 5, 6, 21]) (.cond (xt 21) .skip (.exit 2))) (.seq (.block 3 (.reg c174r9 [0, 3, 4, 5, 6])) (.reg c174r8 [0, 3, 4, 5, 6])))
def c174r10 : List GI := [xn 32 3,
 xm 33 5,
 xo (.bsl 34 47 1 [(xt 33)]),
 xo (.app 35 (xu 32) (xt 34) 47 1 8),
 xn 3 35]
def c174r4 : List GI := [xm 11 4,
 xb 12 .add (xt 11) (xi 8),
 xm 4 12]
def c174l0 : AC := (.seq (.seq (.reg c174r3 [0, 3, 4, 10]) (.cond (xt 10) .skip (.exit 0))) (.seq (.block 1 (.seq (.reg c174r5 [0, 3, 4, 5]) (.seq (.seq (.reg c174r6 [0, 3, 4, 5, 6]) (.block 2 (.loop c174l1))) (.reg c174r10 [0, 3, 4])))) (.reg c174r4 [0, 3, 4])))
def c174r11 : List GI := [xn 36 3,
 xn 2 36]
def c174 : AC := (.seq (.reg c174r0 [0]) (.seq (.reg c174r1 [0, 3]) (.seq (.seq (.reg c174r2 [0, 3, 4]) (.block 0 (.loop c174l0))) (.seq (.reg c174r11 [2]) .ret))))
def c174R : List AR := [.t 2]
theorem k174 : chkF Tryz.prog GLx 174 1 c174 c174R = true := by kernel_rfl
def c175r0 : List GI := [xo (.mv 4 (xj 0))]
def c175r1 : List GI := [xm 6 0,
 xm 7 1,
 xb 8 .xor (xt 6) (xt 7),
 xb 9 .mul (xt 8) (xj 11400714819323198485),
 xm 5 9]
def c175r2 : List GI := [xm 10 5,
 xm 11 5,
 xb 12 .quo (xt 11) (xj 4294967296),
 xb 13 .xor (xt 10) (xt 12),
 xm 4 13]
def c175 : AC := (.seq (.reg c175r0 [0, 1]) (.seq (.reg c175r1 [5]) (.seq (.reg c175r2 [4]) .ret)))
def c175R : List AR := [.t 4]
theorem k175 : chkF Tryz.prog GLx 175 2 c175 c175R = true := by kernel_rfl
def c176r0 : List GI := [xo (.mv 2 (.c (.v (.bool false))))]
def c176r1 : List GI := [xo (.mv 3 (xf 270))]
def c176r2 : List GI := [xn 6 0,
 xp 7 (.alen (xt 6)),
 xo (.mv 8 (xi 0))]
def c176r3 : List GI := [xb 9 .lss (xt 8) (xt 7)]
def c176r4 : List GI := [xp 10 (.iaddr (xt 6) (xt 8) 8),
 xp 11 (.load (xt 10) 8 true),
 xo (.alloc 5 [.v (.int .i64 0), .v (.int .i64 0), .v (.int .i64 0), .v (.int .i64 0), .v (.int .u64 0), .v (.int .u64 0), .v (.int .i64 0), .v (.int .u64 0)]),
 xo (.store (xt 5) (xt 11) 8)]
def c176r5 : List GI := [xm 12 3,
 xa 13 5 0 1,
 xl 14 13 1,
 xo (.call (some 15) (xt 12) [(xt 14), (xi 11)]),
 xp 16 (.not (xt 15)),
 xm 17 16,
 xg 17 false (.mv 18 (xt 3)),
 xg 17 false (.p 19 (.faddr (xt 5) 1 1)),
 xg 17 false (.p 20 (.load (xt 19) 1 false)),
 xg 17 false (.call (some 21) (xt 18) [(xt 20), (xi 1099511627776)]),
 xg 17 false (.p 22 (.not (xt 21))),
 xp 23 (.pick (xt 17) (.c (.v (.bool true))) (xt 22)),
 xm 24 23,
 xg 24 false (.mv 25 (xt 3)),
 xg 24 false (.p 26 (.faddr (xt 5) 2 1)),
 xg 24 false (.p 27 (.load (xt 26) 1 false)),
 xg 24 false (.call (some 28) (xt 25) [(xt 27), (xi 131072)]),
 xg 24 false (.p 29 (.not (xt 28))),
 xp 30 (.pick (xt 24) (.c (.v (.bool true))) (xt 29)),
 xm 31 30,
 xg 31 false (.mv 32 (xt 3)),
 xg 31 false (.p 33 (.faddr (xt 5) 3 1)),
 xg 31 false (.p 34 (.load (xt 33) 1 false)),
 xg 31 false (.call (some 35) (xt 32) [(xt 34), (xi 4096)]),
 xg 31 false (.p 36 (.not (xt 35))),
 xp 37 (.pick (xt 31) (.c (.v (.bool true))) (xt 36)),
 xm 38 37,
 xg 38 false (.mv 39 (xt 3)),
 xg 38 false (.p 40 (.faddr (xt 5) 6 1)),
 xg 38 false (.p 41 (.load (xt 40) 1 false)),
 xg 38 false (.p 42 (.faddr (xt 5) 3 1)),
 xg 38 false (.p 43 (.load (xt 42) 1 false)),
 xg 38 false (.call (some 44) (xt 39) [(xt 41), (xt 43)]),
 xg 38 false (.p 45 (.not (xt 44))),
 xp 46 (.pick (xt 38) (.c (.v (.bool true))) (xt 45))]
def c176r6 : List GI := [xo (.mv 2 (.c (.v (.bool false))))]
def c176r7 : List GI := [xb 47 .add (xt 8) (xi 1),
 xm 8 47]
def c176l0 : AC := (.seq (.reg c176r3 [3, 6, 7, 8, 9]) (.seq (.cond (xt 9) .skip (.exit 0)) (.seq (.block 1 (.seq (.reg c176r4 [3, 5, 6, 7, 8]) (.seq (.reg c176r5 [3, 6, 7, 8, 46]) (.cond (xt 46) (.seq (.reg c176r6 [2]) .ret) .skip)))) (.reg c176r7 [3, 6, 7, 8]))))
def c176r8 : List GI := [xo (.mv 2 (.c (.v (.bool true))))]
def c176 : AC := (.seq (.reg c176r0 [0]) (.seq (.reg c176r1 [0, 3]) (.seq (.seq (.reg c176r2 [3, 6, 7, 8]) (.block 0 (.loop c176l0))) (.seq (.reg c176r8 [2]) .ret))))
def c176R : List AR := [.t 2]
theorem k176 : chkF Tryz.prog GLx 176 1 c176 c176R = true := by kernel_rfl
def c177r0 : List GI := [xo (.mv 4 (.c (.v (.bool false))))]
def c177r1 : List GI := [xm 5 0,
 xc 6 131 [(xt 5)],
 xm 7 6,
 xg 7 true (.mv 8 (xt 1)),
 xg 7 true (.call (some 9) (xf 131) [(xt 8)]),
 xp 10 (.pick (xt 7) (xt 9) (.c (.v (.bool false)))),
 xm 11 10,
 xg 11 true (.mv 12 (xt 0)),
 xg 11 true (.mv 13 (xt 1)),
 xg 11 true (.p 14 (.bin .leq (xt 12) (xt 13))),
 xp 15 (.pick (xt 11) (xt 14) (.c (.v (.bool false)))),
 xm 4 15]
def c177 : AC := (.seq (.reg c177r0 [0, 1]) (.seq (.reg c177r1 [4]) .ret))
def c177R : List AR := [.t 4]
theorem k177 : chkF Tryz.prog GLx 177 2 c177 c177R = true := by kernel_rfl
def c178r0 : List GI := [xo (.mv 6 (.c (.v (.bool false))))]
def c178r1 : List GI := [xm 9 2,
 xp 10 (.alen (xt 9)),
 xo (.mv 11 (xi 0))]
def c178r2 : List GI := [xb 12 .lss (xt 11) (xt 10)]
def c178r3 : List GI := [xm 13 11,
 xp 14 (.iaddr (xt 9) (xt 11) 2),
 xp 15 (.load (xt 14) 2 true),
 xo (.alloc 8 [.v (.int .i64 0), .own 5 1 []]),
 xm 7 13,
 xo (.store (xt 8) (xt 15) 2)]
def c178r4 : List GI := [xa 16 8 0 1,
 xl 17 16 1,
 xm 18 0,
 xb 19 .lss (xt 17) (xt 18),
 xm 20 19,
 xg 20 false (.p 21 (.faddr (xt 8) 0 1)),
 xg 20 false (.p 22 (.load (xt 21) 1 false)),
 xg 20 false (.mv 23 (xt 1)),
 xg 20 false (.p 24 (.bin .gtr (xt 22) (xt 23))),
 xp 25 (.pick (xt 20) (.c (.v (.bool true))) (xt 24)),
 xm 26 25,
 xg 26 false (.mv 27 (xt 7)),
 xg 26 false (.p 28 (.bin .gtr (xt 27) (xi 0))),
 xg 26 false (.mv 29 (xt 28)),
 xg 29 true (.p 30 (.faddr (xt 8) 0 1)),
 xg 29 true (.p 31 (.load (xt 30) 1 false)),
 xg 29 true (.mv 32 (xt 2)),
 xg 29 true (.mv 33 (xt 7)),
 xg 29 true (.p 34 (.bin .sub (xt 33) (xi 1))),
 xg 29 true (.p 35 (.iaddr (xt 32) (xt 34) 2)),
 xg 29 true (.p 36 (.faddr (xt 35) 0 1)),
 xg 29 true (.p 37 (.load (xt 36) 1 false)),
 xg 29 true (.p 38 (.bin .leq (xt 31) (xt 37))),
 xg 26 false (.p 39 (.pick (xt 29) (xt 38) (.c (.v (.bool false))))),
 xp 40 (.pick (xt 26) (.c (.v (.bool true))) (xt 39)),
 xm 41 40,
 xg 41 false (.p 42 (.faddr (xt 8) 1 1)),
 xg 41 false (.p 43 (.load (xt 42) 1 false)),
 xg 41 false (.p 44 (.alen (xt 43))),
 xg 41 false (.p 45 (.bin .gtr (xt 44) (xi 65536))),
 xp 46 (.pick (xt 41) (.c (.v (.bool true))) (xt 45))]
def c178r5 : List GI := [xo (.mv 6 (.c (.v (.bool true))))]
def c178r6 : List GI := [xb 47 .add (xt 11) (xi 1),
 xm 11 47]
def c178l0 : AC := (.seq (.reg c178r2 [0, 1, 2, 9, 10, 11, 12]) (.seq (.cond (xt 12) .skip (.exit 0)) (.seq (.block 1 (.seq (.reg c178r3 [0, 1, 2, 7, 8, 9, 10, 11]) (.seq (.regD c178r4 [0, 1, 2, 9, 10, 11, 46] [[], [0], [], [0, 1, 2], [0, 1, 2, 3], [0, 1, 2, 3, 4], [0, 1, 2, 3, 4, 5], [0, 1, 2, 3, 4], [0, 1, 2, 3, 4, 5, 6, 7], [0, 1, 2, 3, 4, 5, 6, 7, 8], [0, 1, 2, 3, 4, 5, 6, 7, 8, 9], [0, 1, 2, 3, 4, 5, 6, 7, 8, 9, 10], [0, 1, 2, 3, 4, 5, 6, 7, 8, 9, 10, 11], [0, 1, 2, 3, 4, 5, 6, 7, 8, 9, 10, 11, 12], [0, 1, 2, 3, 4, 5, 6, 7, 8, 9, 10, 11, 12, 13], [0, 1, 2, 3, 4, 5, 6, 7, 8, 9, 10, 11, 12, 13, 14], [0, 1, 2, 3, 4, 5, 6, 7, 8, 9, 10, 11, 12, 13], [0, 1, 2, 3, 4, 5, 6, 7, 8, 9, 10, 11, 12, 13], [0, 1, 2, 3, 4, 5, 6, 7, 8, 9, 10, 11, 12, 13, 17], [0, 1, 2, 3, 4, 5, 6, 7, 8, 9, 10, 11, 12, 13, 16, 17, 18], [0, 1, 2, 3, 4, 5, 6, 7, 8, 9, 10, 11, 12, 13, 16, 17, 18, 19], [0, 1, 2, 3, 4, 5, 6, 7, 8, 9, 10, 11, 12, 13, 16, 17, 18, 19, 20], [0, 1, 2, 3, 4, 5, 6, 7, 8, 9, 10, 11, 12, 13, 14, 15, 16, 17, 18, 19, 20, 21], [0, 1, 2, 3, 4, 5, 6, 7, 8, 9, 10, 11, 12, 13, 14, 15, 16, 17, 18, 19, 20, 21, 22], [0, 1, 2, 3, 4, 5, 6, 7, 8, 9, 10, 11, 12, 13, 14, 15, 16, 17, 18, 19, 20, 21, 22, 23], [0, 1, 2, 3, 4, 5, 6, 7, 8, 9, 10, 11, 12, 13, 14, 15, 16, 17, 18, 19, 20, 21, 22, 23, 24], [0, 1, 2, 3, 4, 5, 6, 7, 8, 9, 10, 11, 12, 13, 14, 15, 16, 17, 18, 19, 20, 21, 22, 23, 24, 25], [0, 1, 2, 3, 4, 5, 6, 7, 8, 9, 10, 11, 12, 13, 14, 15, 16, 17, 18, 19, 20, 21, 22, 23, 24, 25, 26], [0, 1, 2, 3, 4, 5, 6, 7, 8, 9, 10, 11, 12, 13, 14, 15, 16, 17, 18, 19, 20, 21, 22, 23, 24, 25, 26, 27], [0, 1, 2, 3, 4, 5, 6, 7, 8, 9, 10, 11, 12, 13, 14, 15, 16, 17, 18, 19, 20, 21, 22, 23, 24, 25, 26, 27, 28], [0, 1, 2, 3, 4, 5, 6, 7, 8, 9, 10, 11, 12, 13, 14, 15, 16, 17, 18, 19, 20, 21, 22, 23, 24, 25, 26, 27, 28, 29]]) (.cond (xt 46) (.seq (.reg c178r5 [6]) .ret) .skip)))) (.reg c178r6 [0, 1, 2, 9, 10, 11]))))
def c178r7 : List GI := [xo (.mv 6 (.c (.v (.bool false))))]
def c178 : AC := (.seq (.reg c178r0 [0, 1, 2]) (.seq (.seq (.reg c178r1 [0, 1, 2, 9, 10, 11]) (.block 0 (.loop c178l0))) (.seq (.reg c178r7 [6]) .ret)))
def c178R : List AR := [.t 6]
theorem k178 : chkF Tryz.prog GLx 178 3 c178 c178R = true := by kernel_rfl
def c179r0 : List GI := [xo (.box 5 (xt 1)),
 xo (.box 7 (xt 3)),
 xo (.alloc 8 [.v .nilm]),
 xo (.alloc 9 [.v (.bool false)])]
def c179r1 : List GI := [xo (.mkm 18),
 xo (.alloc 10 [.v .nilm]),
 xo (.store (xt 10) (xt 18) 1)]
def c179r2 : List GI := [xa 19 7 0 1,
 xl 20 19 1,
 xa 21 7 1 1,
 xl 22 21 1,
 xo (.alloc 11 [.own 47 1 []]),
 xo (.alloc 12 [.own 47 1 []]),
 xo (.store (xt 11) (xu 20) 1),
 xo (.store (xt 12) (xu 22) 1)]
def c179r3 : List GI := [xo (.alloc 13 [.v (.int .i64 0)]),
 xo (.store (xt 13) (xi 0) 1)]
def c179r4 : List GI := [xm 23 0,
 xl 24 5 1,
 xc 25 239 [(xt 23), (xt 24)]]
def c179r5 : List GI := [xo (.alloc 14 [.v (.int .i64 0), .v (.int .i64 0)]),
 xo (.store (xt 14) (xt 26) 2)]
def c179r6 : List GI := [xl 27 13 1,
 xa 28 7 2 1,
 xl 29 28 1,
 xp 30 (.alen (xt 29)),
 xb 31 .geq (xt 27) (xt 30),
 xm 32 31,
 xg 32 false (.p 33 (.faddr (xt 7) 2 1)),
 xg 32 false (.p 34 (.load (xt 33) 1 false)),
 xg 32 false (.p 35 (.load (xt 13) 1 false)),
 xg 32 false (.p 36 (.iaddr (xt 34) (xt 35) 1)),
 xg 32 false (.p 37 (.load (xt 36) 1 false)),
 xg 32 false (.p 38 (.bin .gtr (xt 37) (.c (.v (.int .u8 1))))),
 xp 39 (.pick (xt 32) (.c (.v (.bool true))) (xt 38))]
def c179r7 : List GI := [xo (.store (xt 8) (.c (.v .nilm)) 1),
 xo (.store (xt 9) (.c (.v (.bool false))) 1)]
def c179r8 : List GI := [xm 15 11]
def c179r9 : List GI := [xp 40 (.load (xt 14) 2 true),
 xc 41 271 [(xt 40)],
 xl 42 5 1,
 xb 43 .gtr (xt 41) (xt 42)]
def c179r10 : List GI := [xm 15 12]
def c179r11 : List GI := [xl 44 10 1,
 xp 45 (.load (xt 14) 2 true),
 xp 46 (.build [.v (.int .u64 0), .v (.bool false)] []),
 xo (.mput (xt 44) (xt 45) (xt 46) true [0, 0])]
def c179r12 : List GI := [xa 47 7 2 1,
 xl 48 47 1,
 xl 49 13 1,
 xp 50 (.iaddr (xt 48) (xt 49) 1),
 xl 51 50 1,
 xp 52 (.bin .eql (xt 51) (.c (.v (.int .u8 1))))]
def c179r13 : List GI := [xm 53 15,
 xp 54 (.nilc (xt 53)),
 xl 55 54 1,
 xp 56 (.alen (xt 55)),
 xb 57 .eql (xt 56) (xi 0)]
def c179r14 : List GI := [xo (.store (xt 8) (.c (.v .nilm)) 1),
 xo (.store (xt 9) (.c (.v (.bool false))) 1)]
def c179r15 : List GI := [xl 58 10 1,
 xp 59 (.load (xt 14) 2 true),
 xm 60 15,
 xm 61 15,
 xp 62 (.nilc (xt 61)),
 xl 63 62 1,
 xp 64 (.iaddr (xt 63) (xi 0) 1),
 xl 65 64 1,
 xp 66 (.build [.v (.int .u64 0), .v (.bool false)] [(0, 1, (xt 65)), (1, 1, (.c (.v (.bool true))))]),
 xm 67 15,
 xp 68 (.nilc (xt 67)),
 xl 69 68 1,
 xp 70 (.slc (xt 69) (some (xi 1)) none 1),
 xo (.ment 71 (xt 58) (xt 59) true [0, 0]),
 xe 72 71 1,
 xo (.mest (xt 58) (xt 72) (xt 66)),
 xp 73 (.nilc (xt 60)),
 xo (.store (xt 73) (xu 70) 1)]
def c179r16 : List GI := [xl 74 13 1,
 xb 75 .add (xt 74) (xi 1),
 xo (.store (xt 13) (xt 75) 1)]
def c179a0 : AC := (.reg c179r5 [5, 7, 8, 9, 10, 11, 12, 13, 14])
def c179b0 : AC := (.block 1 (.seq (.seq (.reg c179r6 [5, 7, 8, 9, 10, 11, 12, 13, 14, 39]) (.cond (xt 39) (.seq (.reg c179r7 []) .ret) .skip)) (.seq (.reg c179r8 [5, 7, 8, 9, 10, 12, 13, 14, 15]) (.seq (.seq (.regD c179r9 [7, 8, 9, 10, 12, 13, 14, 15, 43] [[], [0], [], [0, 1, 2]]) (.cond (xt 43) (.reg c179r10 [7, 8, 9, 10, 13, 14, 15]) .skip)) (.seq (.reg c179r11 [7, 8, 9, 10, 13, 14, 15]) (.seq (.seq (.reg c179r12 [8, 9, 10, 13, 14, 15, 52]) (.cond (xt 52) (.seq (.seq (.reg c179r13 [8, 9, 10, 13, 14, 15, 57]) (.cond (xt 57) (.seq (.reg c179r14 []) .ret) .skip)) (.regA c179r15 [13] [[], [], [], [], [3], [3, 4], [3, 4, 5], [3, 4, 5, 6], [3, 4, 5, 6, 7], [], [9], [9, 10], [9, 10, 11], [0, 1, 9, 10, 11], [0, 1, 9, 10, 11, 13], [0, 1, 3, 4, 5, 6, 7, 8, 9, 10, 11, 13, 14], [0, 1, 2, 3, 4, 5, 6, 7, 8, 9, 10, 11, 12, 13, 14, 15], [0, 1, 2, 3, 4, 5, 6, 7, 8, 9, 10, 11, 12, 13, 14, 15, 16]] (.take 0 (.take 1 (.take 2 (.take 3 (.take 4 (.take 9 (.take 10 (.take 11 (.take 12 (.pick (.alt 5 (.take 6 (.pick (.alt 7 (.take 8 (.take 13 (.take 14 (.take 15 (.take 16 (.take 17 .done)))))) (.alt 13 (.take 7 (.take 8 (.take 14 (.take 15 (.take 16 (.take 17 .done)))))) .none)))) (.alt 13 (.take 5 (.take 6 (.take 7 (.take 8 (.take 14 (.take 15 (.take 16 (.take 17 .done)))))))) .none)))))))))))))) .skip)) (.reg c179r16 [])))))))
def c179r17 : List GI := [xn 76 2,
 xp 77 (.alen (xt 76)),
 xo (.mv 78 (xi 0))]
def c179r18 : List GI := [xb 79 .lss (xt 78) (xt 77)]
def c179r19 : List GI := [xp 80 (.iaddr (xt 76) (xt 78) 2),
 xp 81 (.load (xt 80) 2 true),
 xo (.alloc 17 [.v (.int .i64 0), .own 5 1 []]),
 xo (.store (xt 17) (xt 81) 2)]
def c179r20 : List GI := [xl 82 10 1,
 xa 83 17 0 1,
 xl 84 83 1,
 xp 85 (.build [.v (.int .i64 0), .v (.int .i64 0)] [(0, 1, (xi 0)), (1, 1, (xt 84))]),
 xa 86 17 0 1,
 xl 87 86 1,
 xa 88 17 1 1,
 xl 89 88 1,
 xc 90 133 [(xt 87), (xt 89)],
 xp 91 (.build [.v (.int .u64 0), .v (.bool false)] [(0, 1, (xt 90)), (1, 1, (.c (.v (.bool true))))]),
 xo (.mput (xt 82) (xt 85) (xt 91) true [0, 0])]
def c179r21 : List GI := [xb 92 .add (xt 78) (xi 1),
 xm 78 92]
def c179l1 : AC := (.seq (.reg c179r18 [7, 8, 9, 10, 11, 12, 13, 76, 77, 78, 79]) (.seq (.cond (xt 79) .skip (.exit 2)) (.seq (.block 3 (.seq (.reg c179r19 [7, 8, 9, 10, 11, 12, 13, 17, 76, 77, 78]) (.regD c179r20 [7, 8, 9, 10, 11, 12, 13, 76, 77, 78] [[], [], [1], [1, 2], [], [4], [], [6], [4, 5, 6, 7], [4, 5, 6, 7, 8], [0, 1, 2, 3, 4, 5, 6, 7, 8, 9]]))) (.reg c179r21 [7, 8, 9, 10, 11, 12, 13, 76, 77, 78]))))
def c179r22 : List GI := [xl 93 10 1,
 xl 94 13 1,
 xa 95 7 2 1,
 xl 96 95 1,
 xp 97 (.alen (xt 96)),
 xb 98 .eql (xt 94) (xt 97),
 xm 99 98,
 xg 99 true (.p 100 (.load (xt 11) 1 false)),
 xg 99 true (.p 101 (.alen (xt 100))),
 xg 99 true (.p 102 (.bin .eql (xt 101) (xi 0))),
 xp 103 (.pick (xt 99) (xt 102) (.c (.v (.bool false)))),
 xm 104 103,
 xg 104 true (.p 105 (.load (xt 12) 1 false)),
 xg 104 true (.p 106 (.alen (xt 105))),
 xg 104 true (.p 107 (.bin .eql (xt 106) (xi 0))),
 xp 108 (.pick (xt 104) (xt 107) (.c (.v (.bool false)))),
 xo (.store (xt 8) (xt 93) 1),
 xo (.store (xt 9) (xt 108) 1)]
def c179 : AC := (.seq (.reg c179r0 [0, 2, 5, 7, 8, 9]) (.seq (.reg c179r1 [0, 2, 5, 7, 8, 9, 10]) (.seq (.regA c179r2 [0, 2, 5, 7, 8, 9, 10, 11, 12] [[], [0], [], [2], [], [], [0, 1, 4, 5], [0, 1, 2, 3, 4, 5, 6]] (.take 0 (.take 1 (.take 2 (.pick (.alt 3 (.pick (.alt 4 (.take 5 (.take 6 (.take 7 .done))) (.alt 5 (.take 4 (.take 6 (.take 7 .done))) .none))) (.alt 4 (.pick (.alt 3 (.take 5 (.take 6 (.take 7 .done))) (.alt 5 (.pick (.alt 3 (.take 6 (.take 7 .done)) (.alt 6 (.take 3 (.take 7 .done)) .none))) .none))) (.alt 5 (.pick (.alt 3 (.take 4 (.take 6 (.take 7 .done))) (.alt 4 (.pick (.alt 3 (.take 6 (.take 7 .done)) (.alt 6 (.take 3 (.take 7 .done)) .none))) .none))) .none)))))))) (.seq (.reg c179r3 [0, 2, 5, 7, 8, 9, 10, 11, 12, 13]) (.seq (.seq (.reg c179r4 [2, 5, 7, 8, 9, 10, 11, 12, 13, 25]) (.block 0 (.rangeF (xt 25) [26] c179a0 c179b0))) (.seq (.seq (.reg c179r17 [7, 8, 9, 10, 11, 12, 13, 76, 77, 78]) (.block 2 (.loop c179l1))) (.seq (.regA c179r22 [8, 9] [[], [], [], [2], [2, 3], [1, 2, 3, 4], [1, 2, 3, 4, 5], [1, 2, 3, 4, 5, 6], [1, 2, 3, 4, 5, 6, 7], [1, 2, 3, 4, 5, 6, 7, 8], [1, 2, 3, 4, 5, 6, 7, 8, 9], [1, 2, 3, 4, 5, 6, 7, 8, 9, 10], [1, 2, 3, 4, 5, 6, 7, 8, 9, 10, 11], [1, 2, 3, 4, 5, 6, 7, 8, 9, 10, 11, 12], [1, 2, 3, 4, 5, 6, 7, 8, 9, 10, 11, 12, 13], [1, 2, 3, 4, 5, 6, 7, 8, 9, 10, 11, 12, 13, 14], [0, 1, 2, 3, 4, 5, 6, 7, 8, 9, 10, 11], [0, 1, 2, 3, 4, 5, 6, 7, 8, 9, 10, 11, 12, 13, 14, 15, 16]] (.take 0 (.take 1 (.take 2 (.take 3 (.take 4 (.take 5 (.take 6 (.take 7 (.take 8 (.take 9 (.take 10 (.take 11 (.pick (.alt 12 (.take 13 (.take 14 (.take 15 (.take 16 (.take 17 .done))))) (.alt 16 (.take 12 (.take 13 (.take 14 (.take 15 (.take 17 .done))))) .none)))))))))))))))) .ret)))))))
def c179R : List AR := [.c 8 1 false, .c 9 1 false]
theorem k179 : chkF Tryz.prog GLx 179 4 c179 c179R = true := by kernel_rfl
def c180r0 : List GI := [xo (.box 3 (xt 0)),
 xo (.alloc 4 [.v (.int .u64 0), .v (.bool false)])]
def c180r1 : List GI := [xl 10 1 1,
 xp 11 (.load (xt 3) 2 true),
 xp 12 (.look (xt 10) (xt 11) true [0, 0] [.v (.int .u64 0), .v (.bool false)] true true),
 xn 9 12,
 xe 13 9 0,
 xe 14 9 1,
 xo (.alloc 5 [.v (.int .u64 0), .v (.bool false)]),
 xo (.store (xt 5) (xt 13) 2),
 xm 6 14]
def c180r2 : List GI := [xm 15 6,
 xm 16 15,
 xg 16 false (.p 17 (.faddr (xt 3) 0 1)),
 xg 16 false (.p 18 (.load (xt 17) 1 false)),
 xg 16 false (.p 19 (.bin .eql (xt 18) (xi 0))),
 xp 20 (.pick (xt 16) (.c (.v (.bool true))) (xt 19))]
def c180r3 : List GI := [xp 21 (.load (xt 5) 2 true),
 xo (.store (xt 4) (xt 21) 2)]
def c180r4 : List GI := [xp 23 (.load (xt 3) 2 true),
 xc 24 181 [(xt 23)],
 xn 22 24,
 xe 25 22 0,
 xe 26 22 1,
 xo (.alloc 7 [.v (.int .i64 0), .v (.int .i64 0)]),
 xo (.alloc 8 [.v (.int .i64 0), .v (.int .i64 0)]),
 xo (.store (xt 7) (xt 25) 2),
 xo (.store (xt 8) (xt 26) 2)]
def c180r5 : List GI := [xl 27 2 1,
 xp 28 (.load (xt 7) 2 true),
 xo (.callC (some 29) (xt 27) [(xt 28)]),
 xl 30 2 1,
 xp 31 (.load (xt 8) 2 true),
 xo (.callC (some 32) (xt 30) [(xt 31)]),
 xc 33 182 [(xt 29), (xt 32)],
 xo (.store (xt 4) (xt 33) 2)]
def c180 : AC := (.seq (.reg c180r0 [1, 2, 3, 4]) (.seq (.seq (.reg c180r1 [2, 3, 4, 5, 6]) (.seq (.reg c180r2 [2, 3, 4, 5, 20]) (.cond (xt 20) (.seq (.reg c180r3 [4]) .ret) .skip))) (.seq (.reg c180r4 [2, 4, 7, 8]) (.seq (.regA c180r5 [4] [[], [], [0, 1], [], [], [0, 1, 2, 3, 4], [0, 1, 2, 3, 4, 5], [0, 1, 2, 3, 4, 5, 6]] (.take 0 (.take 1 (.take 3 (.take 4 (.take 2 (.take 5 (.take 6 (.take 7 .done))))))))) .ret))))
def c180R : List AR := [.c 4 2 true]
theorem k180 : chkF Tryz.prog GLx 180 3 c180 c180R = true := by kernel_rfl
def c181r0 : List GI := [xo (.box 1 (xt 0)),
 xo (.alloc 2 [.v (.int .i64 0), .v (.int .i64 0)]),
 xo (.alloc 3 [.v (.int .i64 0), .v (.int .i64 0)])]
def c181r1 : List GI := [xa 4 1 0 1,
 xl 5 4 1,
 xb 6 .sub (xt 5) (xi 1),
 xa 7 1 1 1,
 xl 8 7 1,
 xb 9 .mul (xi 2) (xt 8),
 xp 10 (.build [.v (.int .i64 0), .v (.int .i64 0)] [(0, 1, (xt 6)), (1, 1, (xt 9))]),
 xa 11 1 0 1,
 xl 12 11 1,
 xb 13 .sub (xt 12) (xi 1),
 xa 14 1 1 1,
 xl 15 14 1,
 xb 16 .mul (xi 2) (xt 15),
 xb 17 .add (xt 16) (xi 1),
 xp 18 (.build [.v (.int .i64 0), .v (.int .i64 0)] [(0, 1, (xt 13)), (1, 1, (xt 17))]),
 xo (.store (xt 2) (xt 10) 2),
 xo (.store (xt 3) (xt 18) 2)]
def c181 : AC := (.seq (.reg c181r0 [1, 2, 3]) (.seq (.regA c181r1 [2, 3] [[], [0], [0, 1], [], [3], [3, 4], [0, 1, 2, 3, 4, 5], [], [7], [7, 8], [], [10], [10, 11], [10, 11, 12], [7, 8, 9, 10, 11, 12, 13], [0, 1, 2, 3, 4, 5, 6], [0, 1, 2, 3, 4, 5, 6, 7, 8, 9, 10, 11, 12, 13, 14, 15]] (.take 0 (.take 1 (.take 2 (.take 3 (.take 4 (.take 5 (.take 6 (.take 7 (.take 10 (.pick (.alt 8 (.take 9 (.pick (.alt 11 (.take 12 (.take 13 (.take 14 (.take 15 (.take 16 .done))))) (.alt 15 (.take 11 (.take 12 (.take 13 (.take 14 (.take 16 .done))))) .none)))) (.alt 11 (.take 12 (.take 13 (.pick (.alt 8 (.take 9 (.take 14 (.take 15 (.take 16 .done)))) (.alt 15 (.take 8 (.take 9 (.take 14 (.take 16 .done)))) .none))))) (.alt 15 (.take 8 (.take 9 (.take 11 (.take 12 (.take 13 (.take 14 (.take 16 .done))))))) .none)))))))))))))) .ret))
def c181R : List AR := [.c 2 2 true, .c 3 2 true]
theorem k181 : chkF Tryz.prog GLx 181 1 c181 c181R = true := by kernel_rfl
def c182r0 : List GI := [xo (.box 2 (xt 0)),
 xo (.box 3 (xt 1)),
 xo (.alloc 4 [.v (.int .u64 0), .v (.bool false)])]
def c182r1 : List GI := [xa 5 2 1 1,
 xl 6 5 1,
 xp 7 (.not (xt 6)),
 xm 8 7,
 xg 8 true (.p 9 (.faddr (xt 3) 1 1)),
 xg 8 true (.p 10 (.load (xt 9) 1 false)),
 xg 8 true (.p 11 (.not (xt 10))),
 xp 12 (.pick (xt 8) (xt 11) (.c (.v (.bool false))))]
def c182r2 : List GI := [xp 13 (.build [.v (.int .u64 0), .v (.bool false)] []),
 xo (.store (xt 4) (xt 13) 2)]
def c182r3 : List GI := [xa 14 2 0 1,
 xl 15 14 1,
 xp 16 (.cint .i64 (xt 15)),
 xa 17 3 0 1,
 xl 18 17 1,
 xp 19 (.cint .i64 (xt 18)),
 xo (.bsl 20 3 1 [(xt 16), (xt 19)]),
 xc 21 96 [(.c (.v (.str ⟨#[98, 108, 111, 99, 107]⟩))), (xt 20)],
 xp 22 (.build [.v (.int .u64 0), .v (.bool false)] [(0, 1, (xt 21)), (1, 1, (.c (.v (.bool true))))]),
 xo (.store (xt 4) (xt 22) 2)]
def c182 : AC := (.seq (.reg c182r0 [2, 3, 4]) (.seq (.seq (.reg c182r1 [2, 3, 4, 12]) (.cond (xt 12) (.seq (.reg c182r2 [4]) .ret) .skip)) (.seq (.reg c182r3 [4]) .ret)))
def c182R : List AR := [.c 4 2 true]
theorem k182 : chkF Tryz.prog GLx 182 2 c182 c182R = true := by kernel_rfl
def c183r0 : List GI := [xo (.mv 4 (.c (.v (.bool false))))]
def c183r1 : List GI := [xn 5 0,
 xm 6 1,
 xc 7 272 [(xt 5), (xt 6)],
 xb 8 .geq (xt 7) (xi 0),
 xm 4 8]
def c183 : AC := (.seq (.reg c183r0 [0, 1]) (.seq (.reg c183r1 [4]) .ret))
def c183R : List AR := [.t 4]
theorem k183 : chkF Tryz.prog GLx 183 2 c183 c183R = true := by kernel_rfl
def c189r0 : List GI := [xo (.box 1 (xt 0)),
 xo (.mv 2 (.c (.v .nilf)))]
def c189r1 : List GI := [xp 3 (.mkf 279 [(xt 1)]),
 xm 2 3]
def c189 : AC := (.seq (.reg c189r0 [1]) (.seq (.reg c189r1 [2]) .ret))
def c189R : List AR := [.t 2]
theorem k189 : chkF Tryz.prog GLx 189 1 c189 c189R = true := by kernel_rfl
def c190r0 : List GI := [xo (.mv 4 (xj 0))]
def c190r1 : List GI := [xm 6 0,
 xm 7 1,
 xb 8 .xor (xt 6) (xt 7),
 xb 9 .mul (xt 8) (xj 11400714819323198485),
 xm 5 9]
def c190r2 : List GI := [xm 10 5,
 xm 11 5,
 xb 12 .shr (xt 11) (xj 32),
 xb 13 .xor (xt 10) (xt 12),
 xm 4 13]
def c190 : AC := (.seq (.reg c190r0 [0, 1]) (.seq (.reg c190r1 [5]) (.seq (.reg c190r2 [4]) .ret)))
def c190R : List AR := [.t 4]
theorem k190 : chkF Tryz.prog GLx 190 2 c190 c190R = true := by kernel_rfl
end Go.Va

namespace Go.Va
open Go.Proofs
def c192r0 : List GI := [xm 4 1,
 xb 5 .geq (xt 4) (xj 128)]
def c192r2 : List GI := [xm 8 0,
 xm 9 0,
 xp 10 (.nilc (xt 9)),
 xa 11 10 0 1,
 xo (.take 12 (xt 11)),
 xm 13 1,
 xp 14 (.cint .u8 (xt 13)),
 xp 15 (.bin .or (xt 14) (.c (.v (.int .u8 128)))),
 xo (.bsl 16 5 1 [(xt 15)]),
 xo (.app 17 (xu 12) (xt 16) 5 1 1),
 xp 18 (.nilc (xt 8)),
 xa 19 18 0 1,
 xo (.store (xt 19) (xu 17) 1)]
def c192r1 : List GI := [xm 6 1,
 xb 7 .shr (xt 6) (xj 7),
 xm 1 7]
def c192l0 : AC := (.seq (.seq (.reg c192r0 [0, 1, 5]) (.cond (xt 5) .skip (.exit 0))) (.seq (.block 1 (.reg c192r2 [0, 1])) (.reg c192r1 [0, 1])))
def c192r3 : List GI := [xm 20 0,
 xm 21 0,
 xp 22 (.nilc (xt 21)),
 xa 23 22 0 1,
 xo (.take 24 (xt 23)),
 xm 25 1,
 xp 26 (.cint .u8 (xt 25)),
 xo (.bsl 27 5 1 [(xt 26)]),
 xo (.app 28 (xu 24) (xt 27) 5 1 1),
 xp 29 (.nilc (xt 20)),
 xa 30 29 0 1,
 xo (.store (xt 30) (xu 28) 1)]
def c192 : AC := (.seq (.block 0 (.loop c192l0)) (.reg c192r3 []))
def c192R : List AR := []
theorem k192 : chkF Tryz.prog GLx 192 2 c192 c192R = true := by kernel_rfl
def c193r0 : List GI := [xo (.mv 2 (xj 0))]
def c193r1 : List GI := [xm 3 0,
 xp 4 (.cint .u64 (xt 3)),
 xb 5 .shl (xt 4) (xj 1),
 xm 6 0,
 xb 7 .shr (xt 6) (xj 63),
 xp 8 (.cint .u64 (xt 7)),
 xb 9 .xor (xt 5) (xt 8),
 xm 2 9]
def c193 : AC := (.seq (.reg c193r0 [0]) (.seq (.reg c193r1 [2]) .ret))
def c193R : List AR := [.t 2]
theorem k193 : chkF Tryz.prog GLx 193 1 c193 c193R = true := by kernel_rfl
def c194r0 : List GI := [xm 4 0,
 xm 5 1,
 xp 6 (.lenS (xt 5)),
 xp 7 (.cint .u64 (xt 6)),
 xc 8 192 [(xt 4), (xt 7)]]
def c194r1 : List GI := [xm 9 0,
 xm 10 0,
 xp 11 (.nilc (xt 10)),
 xa 12 11 0 1,
 xo (.take 13 (xt 12)),
 xm 14 1,
 xo (.appS 15 (xu 13) (xt 14) 5 1),
 xp 16 (.nilc (xt 9)),
 xa 17 16 0 1,
 xo (.store (xt 17) (xu 15) 1)]
def c194 : AC := (.seq (.reg c194r0 [0, 1]) (.reg c194r1 []))
def c194R : List AR := []
theorem k194 : chkF Tryz.prog GLx 194 2 c194 c194R = true := by kernel_rfl
def c198r0 : List GI := [xo (.mv 2 (.c (.own 5 1 [])))]
def c198r1 : List GI := [xo (.mv 3 (.c (.own 5 1 [])))]
def c198r2 : List GI := [xm 4 0,
 xb 5 .gtr (xt 4) (xj 127)]
def c198r3 : List GI := [xn 6 3,
 xm 7 0,
 xb 8 .rem (xt 7) (xj 128),
 xb 9 .add (xj 128) (xt 8),
 xp 10 (.cint .u8 (xt 9)),
 xo (.bsl 11 5 1 [(xt 10)]),
 xo (.app 12 (xu 6) (xt 11) 5 1 1),
 xn 3 12]
def c198r4 : List GI := [xm 13 0,
 xb 14 .quo (xt 13) (xj 128),
 xm 0 14]
def c198l0 : AC := (.seq (.seq (.reg c198r2 [0, 3, 5]) (.cond (xt 5) .skip (.exit 0))) (.block 1 (.seq (.reg c198r3 [0, 3]) (.reg c198r4 [0, 3]))))
def c198r5 : List GI := [xn 15 3,
 xm 16 0,
 xp 17 (.cint .u8 (xt 16)),
 xo (.bsl 18 5 1 [(xt 17)]),
 xo (.app 19 (xu 15) (xt 18) 5 1 1),
 xn 2 19]
def c198 : AC := (.seq (.reg c198r0 [0]) (.seq (.reg c198r1 [0, 3]) (.seq (.block 0 (.loop c198l0)) (.seq (.reg c198r5 [2]) .ret))))
def c198R : List AR := [.t 2]
theorem k198 : chkF Tryz.prog GLx 198 1 c198 c198R = true := by kernel_rfl
def c199r0 : List GI := [xo (.mv 2 (xj 0))]
def c199r1 : List GI := [xm 3 0,
 xb 4 .lss (xt 3) (xi 0)]
def c199r2 : List GI := [xm 5 0,
 xb 6 .add (xt 5) (xi 1),
 xp 7 (.neg (xt 6)),
 xp 8 (.cint .u64 (xt 7)),
 xb 9 .mul (xj 2) (xt 8),
 xb 10 .add (xt 9) (xj 1),
 xm 2 10]
def c199r3 : List GI := [xm 11 0,
 xp 12 (.cint .u64 (xt 11)),
 xb 13 .mul (xj 2) (xt 12),
 xm 2 13]
def c199 : AC := (.seq (.reg c199r0 [0]) (.seq (.seq (.reg c199r1 [0, 4]) (.cond (xt 4) (.seq (.reg c199r2 [2]) .ret) .skip)) (.seq (.reg c199r3 [2]) .ret)))
def c199R : List AR := [.t 2]
theorem k199 : chkF Tryz.prog GLx 199 1 c199 c199R = true := by kernel_rfl
def c208r0 : List GI := [xo (.mv 3 (.c (.v (.bool false))))]
def c208r1 : List GI := [xm 4 0,
 xb 5 .lss (xt 4) (xi 0),
 xm 6 5,
 xg 6 false (.mv 7 (xt 0)),
 xg 6 false (.p 8 (.load (xt 1) 1 false)),
 xg 6 false (.p 9 (.bin .geq (xt 7) (xt 8))),
 xp 10 (.pick (xt 6) (.c (.v (.bool true))) (xt 9)),
 xm 3 10]
def c208 : AC := (.seq (.reg c208r0 [0, 1]) (.seq (.reg c208r1 [3]) .ret))
def c208R : List AR := [.t 3]
theorem k208 : chkF Tryz.prog GLx 208 2 c208 c208R = true := by kernel_rfl
def c209r0 : List GI := [xo (.mv 2 (.c (.v (.bool false))))]
def c209r1 : List GI := [xm 4 0,
 xp 5 (.alen (xt 4)),
 xb 6 .sub (xt 5) (xi 1),
 xm 3 6]
def c209r2 : List GI := [xm 7 3,
 xb 8 .gtr (xt 7) (xi 0)]
def c209r4 : List GI := [xm 11 0,
 xm 12 3,
 xp 13 (.iaddr (xt 11) (xt 12) 1),
 xl 14 13 1,
 xm 15 0,
 xm 16 3,
 xb 17 .sub (xt 16) (xi 1),
 xp 18 (.iaddr (xt 15) (xt 17) 1),
 xl 19 18 1,
 xc 20 284 [(xt 14), (xt 19)]]
def c209r5 : List GI := [xo (.mv 2 (.c (.v (.bool false))))]
def c209r3 : List GI := [xm 9 3,
 xb 10 .sub (xt 9) (xi 1),
 xm 3 10]
def c209l0 : AC := (.seq (.seq (.reg c209r2 [0, 3, 8]) (.cond (xt 8) .skip (.exit 0))) (.seq (.block 1 (.seq (.regD c209r4 [0, 3, 20] [[], [], [0, 1], [0, 1, 2], [], [], [5], [4, 5, 6], [4, 5, 6, 7], [0, 1, 2, 3, 4, 5, 6, 7, 8]]) (.cond (xt 20) (.seq (.reg c209r5 [2]) .ret) .skip))) (.reg c209r3 [0, 3])))
def c209r6 : List GI := [xo (.mv 2 (.c (.v (.bool true))))]
def c209 : AC := (.seq (.reg c209r0 [0]) (.seq (.seq (.reg c209r1 [0, 3]) (.block 0 (.loop c209l0))) (.seq (.reg c209r6 [2]) .ret)))
def c209R : List AR := [.t 2]
theorem k209 : chkF Tryz.prog GLx 209 1 c209 c209R = true := by kernel_rfl
def c210r0 : List GI := [xo (.mv 2 (.c (.own 3 1 [])))]
def c210r1 : List GI := [xm 6 0,
 xp 7 (.alen (xt 6)),
 xb 8 .lss (xt 7) (xi 2)]
def c210r2 : List GI := [xn 9 0,
 xn 2 9]
def c210r3 : List GI := [xo (.mv 3 (xi 1))]
def c210r4 : List GI := [xm 10 3,
 xm 11 0,
 xp 12 (.alen (xt 11)),
 xb 13 .lss (xt 10) (xt 12)]
def c210r6 : List GI := [xm 16 0,
 xm 17 3,
 xp 18 (.iaddr (xt 16) (xt 17) 1),
 xl 19 18 1,
 xm 20 0,
 xm 21 3,
 xb 22 .sub (xt 21) (xi 1),
 xp 23 (.iaddr (xt 20) (xt 22) 1),
 xl 24 23 1,
 xb 25 .eql (xt 19) (xt 24)]
def c210r7 : List GI := [xm 26 0,
 xm 27 3,
 xp 28 (.slc (xt 26) (some (xt 27)) none 1),
 xn 4 28]
def c210r8 : List GI := [xo (.mv 5 (xi 1))]
def c210r9 : List GI := [xm 29 5,
 xm 30 4,
 xp 31 (.alen (xt 30)),
 xb 32 .lss (xt 29) (xt 31)]
def c210r11 : List GI := [xm 35 4,
 xm 36 5,
 xp 37 (.iaddr (xt 35) (xt 36) 1),
 xl 38 37 1,
 xm 39 4,
 xm 40 5,
 xb 41 .sub (xt 40) (xi 1),
 xp 42 (.iaddr (xt 39) (xt 41) 1),
 xl 43 42 1,
 xb 44 .neq (xt 38) (xt 43)]
def c210r12 : List GI := [xm 45 0,
 xm 46 3,
 xm 47 4,
 xm 48 5,
 xp 49 (.iaddr (xt 47) (xt 48) 1),
 xl 50 49 1,
 xp 51 (.iaddr (xt 45) (xt 46) 1),
 xo (.store (xt 51) (xt 50) 1)]
def c210r13 : List GI := [xm 52 3,
 xb 53 .add (xt 52) (xi 1),
 xm 3 53]
def c210r10 : List GI := [xm 33 5,
 xb 34 .add (xt 33) (xi 1),
 xm 5 34]
def c210l1 : AC := (.seq (.seq (.reg c210r9 [0, 3, 4, 5, 32]) (.cond (xt 32) .skip (.exit 2))) (.seq (.block 3 (.seq (.regD c210r11 [0, 3, 4, 5, 44] [[], [], [0, 1], [0, 1, 2], [], [], [5], [4, 5, 6], [4, 5, 6, 7], [0, 1, 2, 3, 4, 5, 6, 7, 8]]) (.cond (xt 44) (.seq (.reg c210r12 [0, 3, 4, 5]) (.reg c210r13 [0, 3, 4, 5])) .skip))) (.reg c210r10 [0, 3, 4, 5])))
def c210r15 : List GI := [xn 57 0,
 xm 58 3,
 xp 59 (.slc (xt 57) none (some (xt 58)) 1),
 xn 2 59]
def c210r5 : List GI := [xm 14 3,
 xb 15 .add (xt 14) (xi 1),
 xm 3 15]
def c210l0 : AC := (.seq (.seq (.reg c210r4 [0, 3, 13]) (.cond (xt 13) .skip (.exit 0))) (.seq (.block 1 (.seq (.regD c210r6 [0, 3, 25] [[], [], [0, 1], [0, 1, 2], [], [], [5], [4, 5, 6], [4, 5, 6, 7], [0, 1, 2, 3, 4, 5, 6, 7, 8]]) (.cond (xt 25) (.seq (.reg c210r7 [0, 3, 4]) (.seq (.seq (.reg c210r8 [0, 3, 4, 5]) (.block 2 (.loop c210l1))) (.seq .never (.seq (.reg c210r15 [2]) .ret)))) .skip))) (.reg c210r5 [0, 3])))
def c210r16 : List GI := [xn 60 0,
 xn 2 60]
def c210 : AC := (.seq (.reg c210r0 [0]) (.seq (.seq (.reg c210r1 [0, 8]) (.cond (xt 8) (.seq (.reg c210r2 [2]) .ret) .skip)) (.seq (.seq (.reg c210r3 [0, 3]) (.block 0 (.loop c210l0))) (.seq (.reg c210r16 [2]) .ret))))
def c210R : List AR := [.t 2]
theorem k210 : chkF Tryz.prog GLx 210 1 c210 c210R = true := by kernel_rfl
def c211r0 : List GI := [xo (.mv 6 (.c (.v (.bool false))))]
def c211r1 : List GI := [xl 11 1 1,
 xm 12 0,
 xp 13 (.iaddr (xt 11) (xt 12) 1),
 xl 14 13 1,
 xm 15 14,
 xg 15 false (.p 16 (.load (xt 2) 1 false)),
 xg 15 false (.mv 17 (xt 0)),
 xg 15 false (.p 18 (.iaddr (xt 16) (xt 17) 1)),
 xg 15 false (.p 19 (.load (xt 18) 1 false)),
 xp 20 (.pick (xt 15) (.c (.v (.bool true))) (xt 19))]
def c211r2 : List GI := [xl 21 1 1,
 xm 22 0,
 xp 23 (.iaddr (xt 21) (xt 22) 1),
 xl 24 23 1,
 xm 6 24]
def c211r3 : List GI := [xl 25 2 1,
 xm 26 0,
 xp 27 (.iaddr (xt 25) (xt 26) 1),
 xo (.store (xt 27) (.c (.v (.bool true))) 1)]
def c211r4 : List GI := [xl 28 3 1,
 xm 29 0,
 xm 30 0,
 xp 31 (.nilc (xt 28)),
 xa 32 31 1 4096,
 xp 33 (.iaddrA (xt 32) (xt 29) 64 64),
 xp 34 (.iaddrA (xt 33) (xt 30) 64 1),
 xo (.store (xt 34) (.c (.v (.bool true))) 1)]
def c211r5 : List GI := [xl 35 3 1,
 xp 36 (.nilc (xt 35)),
 xa 37 36 0 1,
 xl 38 37 1,
 xm 39 0,
 xp 40 (.iaddr (xt 38) (xt 39) 1),
 xl 41 40 1,
 xp 42 (.alen (xt 41)),
 xo (.mv 43 (xi 0))]
def c211r6 : List GI := [xb 44 .lss (xt 43) (xt 42)]
def c211r7 : List GI := [xp 45 (.iaddr (xt 41) (xt 43) 1),
 xl 46 45 1,
 xm 8 46]
def c211r8 : List GI := [xl 47 4 1,
 xm 48 8,
 xo (.call (some 49) (xt 47) [(xt 48)]),
 xp 50 (.not (xt 49))]
def c211r9 : List GI := [xo (.mv 6 (.c (.v (.bool false))))]
def c211r10 : List GI := [xl 51 3 1,
 xm 52 8,
 xp 53 (.nilc (xt 51)),
 xa 54 53 1 4096,
 xp 55 (.iaddrA (xt 54) (xt 52) 64 64),
 xp 56 (.load (xt 55) 64 true),
 xo (.mv 57 (xi 0))]
def c211r11 : List GI := [xb 58 .lss (xt 57) (xi 64)]
def c211r12 : List GI := [xm 59 57,
 xp 60 (.idxA (xt 56) (xt 57) 64 1 false),
 xm 9 59,
 xm 10 60]
def c211r13 : List GI := [xl 61 3 1,
 xm 62 0,
 xm 63 9,
 xl 64 3 1,
 xm 65 0,
 xm 66 9,
 xp 67 (.nilc (xt 64)),
 xa 68 67 1 4096,
 xp 69 (.iaddrA (xt 68) (xt 65) 64 64),
 xp 70 (.iaddrA (xt 69) (xt 66) 64 1),
 xl 71 70 1,
 xm 72 71,
 xg 72 false (.mv 73 (xt 10)),
 xp 74 (.pick (xt 72) (.c (.v (.bool true))) (xt 73)),
 xp 75 (.nilc (xt 61)),
 xa 76 75 1 4096,
 xp 77 (.iaddrA (xt 76) (xt 62) 64 64),
 xp 78 (.iaddrA (xt 77) (xt 63) 64 1),
 xo (.store (xt 78) (xt 74) 1)]
def c211r14 : List GI := [xb 79 .add (xt 57) (xi 1),
 xm 57 79]
def c211l1 : AC := (.seq (.reg c211r11 [0, 1, 3, 4, 41, 42, 43, 56, 57, 58]) (.seq (.cond (xt 58) .skip (.exit 2)) (.seq (.block 3 (.seq (.reg c211r12 [0, 1, 3, 4, 9, 10, 41, 42, 43, 56, 57]) (.regD c211r13 [0, 1, 3, 4, 41, 42, 43, 56, 57] [[], [], [], [], [], [], [3], [3, 6], [3, 4, 6, 7], [3, 4, 5, 6, 7, 8], [3, 4, 5, 6, 7, 8, 9], [3, 4, 5, 6, 7, 8, 9, 10], [3, 4, 5, 6, 7, 8, 9, 10, 11], [3, 4, 5, 6, 7, 8, 9, 10, 11, 12], [0], [0, 14], [0, 1, 14, 15], [0, 1, 2, 3, 4, 5, 6, 7, 8, 9, 10, 11, 12, 13, 14, 15, 16], [0, 1, 2, 3, 4, 5, 6, 7, 8, 9, 10, 11, 12, 13, 14, 15, 16, 17]]))) (.reg c211r14 [0, 1, 3, 4, 41, 42, 43, 56, 57]))))
def c211r15 : List GI := [xb 80 .add (xt 43) (xi 1),
 xm 43 80]
def c211l0 : AC := (.seq (.reg c211r6 [0, 1, 3, 4, 41, 42, 43, 44]) (.seq (.cond (xt 44) .skip (.exit 0)) (.seq (.block 1 (.seq (.reg c211r7 [0, 1, 3, 4, 8, 41, 42, 43]) (.seq (.seq (.reg c211r8 [0, 1, 3, 4, 8, 41, 42, 43, 50]) (.cond (xt 50) (.seq (.reg c211r9 [6]) .ret) .skip)) (.seq (.reg c211r10 [0, 1, 3, 4, 41, 42, 43, 56, 57]) (.block 2 (.loop c211l1)))))) (.reg c211r15 [0, 1, 3, 4, 41, 42, 43]))))
def c211r16 : List GI := [xl 81 1 1,
 xm 82 0,
 xp 83 (.iaddr (xt 81) (xt 82) 1),
 xo (.store (xt 83) (.c (.v (.bool true))) 1)]
def c211r17 : List GI := [xo (.mv 6 (.c (.v (.bool true))))]
def c211 : AC := (.seq (.reg c211r0 [0, 1, 2, 3, 4]) (.seq (.seq (.reg c211r1 [0, 1, 2, 3, 4, 20]) (.cond (xt 20) (.seq (.reg c211r2 [6]) .ret) .skip)) (.seq (.reg c211r3 [0, 1, 3, 4]) (.seq (.reg c211r4 [0, 1, 3, 4]) (.seq (.seq (.reg c211r5 [0, 1, 3, 4, 41, 42, 43]) (.block 0 (.loop c211l0))) (.seq (.reg c211r16 []) (.seq (.reg c211r17 [6]) .ret)))))))
def c211R : List AR := [.t 6]
theorem k211 : chkF Tryz.prog GLx 211 5 c211 c211R = true := by kernel_rfl
def c212r0 : List GI := [xo (.alloc 2 [.v (.int .i64 0), .v (.int .i64 0), .own 368 8 [], .own 84 4 []])]
def c212r1 : List GI := [xm 8 0,
 xc 9 11 [(xt 8), (xi 1048576)],
 xm 3 9]
def c212r2 : List GI := [xm 10 3,
 xb 11 .quo (xt 10) (xi 8),
 xb 12 .rem (xt 11) (xi 6),
 xp 13 (.build [.v (.int .i64 0), .v (.int .i64 0), .nil 368 8, .nil 84 4] [(0, 1, (xi 1)), (1, 1, (xt 12))]),
 xo (.alloc 4 [.v (.int .i64 0), .v (.int .i64 0), .own 368 8 [], .own 84 4 []]),
 xo (.store (xt 4) (xt 13) 4)]
def c212r3 : List GI := [xm 14 3,
 xb 15 .quo (xt 14) (xi 48),
 xb 16 .rem (xt 15) (xi 4),
 xp 17 (.build [.v (.int .i64 0), .v (.int .i64 0)] [(0, 1, (xt 16)), (1, 1, (xi 1))]),
 xo (.alloc 5 [.v (.int .i64 0), .v (.int .i64 0)]),
 xo (.store (xt 5) (xt 17) 2)]
def c212r4 : List GI := [xm 18 3,
 xb 19 .quo (xt 18) (xi 48),
 xb 20 .rem (xt 19) (xi 4),
 xb 21 .add (xt 20) (xi 1),
 xm 22 3,
 xb 23 .quo (xt 22) (xi 192),
 xb 24 .rem (xt 23) (xi 2),
 xb 25 .add (xt 21) (xt 24),
 xp 26 (.build [.v (.int .i64 0), .v (.int .i64 0)] [(0, 1, (xt 25)), (1, 1, (xi 1))]),
 xo (.alloc 6 [.v (.int .i64 0), .v (.int .i64 0)]),
 xo (.store (xt 6) (xt 26) 2)]
def c212r5 : List GI := [xm 27 3,
 xb 28 .quo (xt 27) (xi 8),
 xb 29 .rem (xt 28) (xi 2),
 xp 30 (.load (xt 5) 2 true),
 xp 31 (.load (xt 6) 2 true),
 xm 32 3,
 xb 33 .quo (xt 32) (xi 384),
 xb 34 .rem (xt 33) (xi 2),
 xb 35 .eql (xt 34) (xi 1),
 xp 36 (.build [.v (.int .i64 0), .v (.int .i64 0), .v (.int .i64 0), .v (.int .i64 0), .v (.bool false), .v (.bool false), .v (.bool false), .v (.bool false)] [(0, 2, (xt 30)), (2, 2, (xt 31)), (4, 1, (xt 35))]),
 xo (.bsl 37 368 8 [(xt 36)]),
 xp 38 (.build [.v (.int .i64 0), .v (.int .i64 0), .nil 368 8, .nil 84 4] [(0, 1, (xi 2)), (1, 1, (xt 29)), (2, 1, (xt 37))]),
 xo (.alloc 7 [.v (.int .i64 0), .v (.int .i64 0), .own 368 8 [], .own 84 4 []]),
 xo (.store (xt 7) (xt 38) 4)]
def c212r6 : List GI := [xm 39 3,
 xb 40 .rem (xt 39) (xi 8)]
def c212r7 : List GI := [xb 42 .eql (xt 40) (xi 0),
 xm 41 42]
def c212r8 : List GI := [xb 43 .eql (xt 40) (xi 1),
 xm 41 43]
def c212r9 : List GI := [xb 44 .eql (xt 40) (xi 2),
 xm 41 44]
def c212r10 : List GI := [xp 45 (.load (xt 4) 4 true),
 xo (.store (xt 2) (xt 45) 4)]
def c212r11 : List GI := [xb 47 .eql (xt 40) (xi 3),
 xm 46 47]
def c212r12 : List GI := [xb 48 .eql (xt 40) (xi 4),
 xm 46 48]
def c212r13 : List GI := [xp 49 (.load (xt 7) 4 true),
 xo (.store (xt 2) (xt 49) 4)]
def c212r14 : List GI := [xb 51 .eql (xt 40) (xi 5),
 xm 50 51]
def c212r15 : List GI := [xp 52 (.load (xt 7) 4 true),
 xp 53 (.load (xt 4) 4 true),
 xo (.bsl 54 84 4 [(xt 52), (xt 53)]),
 xp 55 (.build [.v (.int .i64 0), .v (.int .i64 0), .nil 368 8, .nil 84 4] [(0, 1, (xi 4)), (3, 1, (xt 54))]),
 xo (.store (xt 2) (xt 55) 4)]
def c212r16 : List GI := [xb 57 .eql (xt 40) (xi 6),
 xm 56 57]
def c212r17 : List GI := [xp 58 (.load (xt 4) 4 true),
 xo (.bsl 59 84 4 [(xt 58)]),
 xp 60 (.build [.v (.int .i64 0), .v (.int .i64 0), .nil 368 8, .nil 84 4] [(0, 1, (xi 3)), (3, 1, (xt 59))]),
 xo (.store (xt 2) (xt 60) 4)]
def c212r18 : List GI := [xp 61 (.load (xt 4) 4 true),
 xo (.bsl 62 84 4 [(xt 61)]),
 xp 63 (.build [.v (.int .i64 0), .v (.int .i64 0), .nil 368 8, .nil 84 4] [(0, 1, (xi 6)), (3, 1, (xt 62))]),
 xo (.store (xt 2) (xt 63) 4)]
def c212 : AC := (.seq (.reg c212r0 [0, 2]) (.seq (.reg c212r1 [2, 3]) (.seq (.reg c212r2 [2, 3, 4]) (.seq (.reg c212r3 [2, 3, 4, 5]) (.seq (.reg c212r4 [2, 3, 4, 5, 6]) (.seq (.reg c212r5 [2, 3, 4, 7]) (.seq (.seq (.reg c212r6 [2, 4, 7, 40]) (.block 0 (.seq (.seq (.reg c212r7 [2, 4, 7, 40, 41]) (.cond (xt 41) .skip (.seq (.reg c212r8 [2, 4, 7, 40, 41]) (.cond (xt 41) .skip (.reg c212r9 [2, 4, 7, 40, 41]))))) (.cond (xt 41) (.seq (.reg c212r10 [2]) .ret) (.seq (.seq (.reg c212r11 [2, 4, 7, 40, 46]) (.cond (xt 46) .skip (.reg c212r12 [2, 4, 7, 40, 46]))) (.cond (xt 46) (.seq (.reg c212r13 [2]) .ret) (.seq (.reg c212r14 [2, 4, 7, 40, 50]) (.cond (xt 50) (.seq (.reg c212r15 [2]) .ret) (.seq (.reg c212r16 [2, 4, 56]) (.cond (xt 56) (.seq (.reg c212r17 [2]) .ret) .skip)))))))))) (.seq (.reg c212r18 [2]) .ret))))))))
def c212R : List AR := [.c 2 4 true]
theorem k212 : chkF Tryz.prog GLx 212 1 c212 c212R = true := by kernel_rfl
def c213r0 : List GI := [xo (.mv 4 (.c (.v (.bool false))))]
def c213r1 : List GI := [xo (.mv 5 (xi 0))]
def c213r2 : List GI := [xm 6 5,
 xm 7 0,
 xp 8 (.alen (xt 7)),
 xb 9 .lss (xt 6) (xt 8)]
def c213r4 : List GI := [xm 12 0,
 xm 13 5,
 xp 14 (.iaddr (xt 12) (xt 13) 1),
 xl 15 14 1,
 xb 16 .lss (xt 15) (xi 0),
 xm 17 16,
 xg 17 false (.mv 18 (xt 0)),
 xg 17 false (.mv 19 (xt 5)),
 xg 17 false (.p 20 (.iaddr (xt 18) (xt 19) 1)),
 xg 17 false (.p 21 (.load (xt 20) 1 false)),
 xg 17 false (.mv 22 (xt 1)),
 xg 17 false (.p 23 (.bin .geq (xt 21) (xt 22))),
 xp 24 (.pick (xt 17) (.c (.v (.bool true))) (xt 23)),
 xm 25 24,
 xg 25 false (.mv 26 (xt 5)),
 xg 25 false (.p 27 (.bin .gtr (xt 26) (xi 0))),
 xg 25 false (.mv 28 (xt 27)),
 xg 28 true (.mv 29 (xt 0)),
 xg 28 true (.mv 30 (xt 5)),
 xg 28 true (.p 31 (.iaddr (xt 29) (xt 30) 1)),
 xg 28 true (.p 32 (.load (xt 31) 1 false)),
 xg 28 true (.mv 33 (xt 0)),
 xg 28 true (.mv 34 (xt 5)),
 xg 28 true (.p 35 (.bin .sub (xt 34) (xi 1))),
 xg 28 true (.p 36 (.iaddr (xt 33) (xt 35) 1)),
 xg 28 true (.p 37 (.load (xt 36) 1 false)),
 xg 28 true (.p 38 (.bin .leq (xt 32) (xt 37))),
 xg 25 false (.p 39 (.pick (xt 28) (xt 38) (.c (.v (.bool false))))),
 xp 40 (.pick (xt 25) (.c (.v (.bool true))) (xt 39))]
def c213r5 : List GI := [xo (.mv 4 (.c (.v (.bool false))))]
def c213r3 : List GI := [xm 10 5,
 xb 11 .add (xt 10) (xi 1),
 xm 5 11]
def c213l0 : AC := (.seq (.seq (.reg c213r2 [0, 1, 5, 9]) (.cond (xt 9) .skip (.exit 0))) (.seq (.block 1 (.seq (.regD c213r4 [0, 1, 5, 40] [[], [], [0, 1], [0, 1, 2], [0, 1, 2, 3], [0, 1, 2, 3, 4], [0, 1, 2, 3, 4, 5], [0, 1, 2, 3, 4, 5], [0, 1, 2, 3, 4, 5, 6, 7], [0, 1, 2, 3, 4, 5, 6, 7, 8], [0, 1, 2, 3, 4, 5], [0, 1, 2, 3, 4, 5, 6, 7, 8, 9, 10], [0, 1, 2, 3, 4, 5, 6, 7, 8, 9, 10, 11], [0, 1, 2, 3, 4, 5, 6, 7, 8, 9, 10, 11, 12], [0, 1, 2, 3, 4, 5, 6, 7, 8, 9, 10, 11, 12, 13], [0, 1, 2, 3, 4, 5, 6, 7, 8, 9, 10, 11, 12, 13, 14], [0, 1, 2, 3, 4, 5, 6, 7, 8, 9, 10, 11, 12, 13, 14, 15], [0, 1, 2, 3, 4, 5, 6, 7, 8, 9, 10, 11, 12, 13, 14, 15, 16], [0, 1, 2, 3, 4, 5, 6, 7, 8, 9, 10, 11, 12, 13, 14, 15, 16], [0, 1, 2, 3, 4, 5, 6, 7, 8, 9, 10, 11, 12, 13, 14, 15, 16, 17, 18], [0, 1, 2, 3, 4, 5, 6, 7, 8, 9, 10, 11, 12, 13, 14, 15, 16, 17, 18, 19], [0, 1, 2, 3, 4, 5, 6, 7, 8, 9, 10, 11, 12, 13, 14, 15, 16], [0, 1, 2, 3, 4, 5, 6, 7, 8, 9, 10, 11, 12, 13, 14, 15, 16], [0, 1, 2, 3, 4, 5, 6, 7, 8, 9, 10, 11, 12, 13, 14, 15, 16, 22], [0, 1, 2, 3, 4, 5, 6, 7, 8, 9, 10, 11, 12, 13, 14, 15, 16, 21, 22, 23], [0, 1, 2, 3, 4, 5, 6, 7, 8, 9, 10, 11, 12, 13, 14, 15, 16, 21, 22, 23, 24], [0, 1, 2, 3, 4, 5, 6, 7, 8, 9, 10, 11, 12, 13, 14, 15, 16, 17, 18, 19, 20, 21, 22, 23, 24, 25], [0, 1, 2, 3, 4, 5, 6, 7, 8, 9, 10, 11, 12, 13, 14, 15, 16, 17, 18, 19, 20, 21, 22, 23, 24, 25, 26], [0, 1, 2, 3, 4, 5, 6, 7, 8, 9, 10, 11, 12, 13, 14, 15, 16, 17, 18, 19, 20, 21, 22, 23, 24, 25, 26, 27]]) (.cond (xt 40) (.seq (.reg c213r5 [4]) .ret) .skip))) (.reg c213r3 [0, 1, 5])))
def c213r6 : List GI := [xo (.mv 4 (.c (.v (.bool true))))]
def c213 : AC := (.seq (.reg c213r0 [0, 1]) (.seq (.seq (.reg c213r1 [0, 1, 5]) (.block 0 (.loop c213l0))) (.seq (.reg c213r6 [4]) .ret)))
def c213R : List AR := [.t 4]
theorem k213 : chkF Tryz.prog GLx 213 2 c213 c213R = true := by kernel_rfl
def c214r0 : List GI := [xo (.box 1 (xt 0)),
 xo (.mv 2 (xi 0))]
def c214r1 : List GI := [xp 3 (.load (xt 1) 4 true),
 xc 4 285 [(xt 3)],
 xb 5 .gtr (xt 4) (xi 96),
 xm 6 5,
 xg 6 false (.p 7 (.load (xt 1) 4 true)),
 xg 6 false (.call (some 8) (xf 286) [(xt 7)]),
 xg 6 false (.p 9 (.bin .gtr (xt 8) (xi 8))),
 xp 10 (.pick (xt 6) (.c (.v (.bool true))) (xt 9))]
def c214r2 : List GI := [xo (.mv 2 (xi 4))]
def c214r3 : List GI := [xp 11 (.load (xt 1) 4 true),
 xc 12 287 [(xt 11)],
 xp 13 (.not (xt 12))]
def c214r4 : List GI := [xo (.mv 2 (xi 1))]
def c214r5 : List GI := [xo (.mv 2 (xi 0))]
def c214 : AC := (.seq (.reg c214r0 [1]) (.seq (.seq (.reg c214r1 [1, 10]) (.cond (xt 10) (.seq (.reg c214r2 [2]) .ret) .skip)) (.seq (.seq (.reg c214r3 [13]) (.cond (xt 13) (.seq (.reg c214r4 [2]) .ret) .skip)) (.seq (.reg c214r5 [2]) .ret))))
def c214R : List AR := [.t 2]
theorem k214 : chkF Tryz.prog GLx 214 1 c214 c214R = true := by kernel_rfl
def c215r0 : List GI := [xo (.mv 4 (xi 0))]
def c215r1 : List GI := [xm 5 1,
 xb 6 .neq (xt 5) (xi 0)]
def c215r2 : List GI := [xm 7 1,
 xm 8 0,
 xm 9 1,
 xb 10 .rem (xt 8) (xt 9),
 xm 0 7,
 xm 1 10]
def c215l0 : AC := (.seq (.seq (.reg c215r1 [0, 1, 6]) (.cond (xt 6) .skip (.exit 0))) (.block 1 (.regD c215r2 [0, 1] [[], [], [], [1, 2], [0, 1], [0, 1, 2, 3, 4]])))
def c215r3 : List GI := [xm 11 0,
 xb 12 .lss (xt 11) (xi 0)]
def c215r4 : List GI := [xm 13 0,
 xp 14 (.neg (xt 13)),
 xm 4 14]
def c215r5 : List GI := [xm 15 0,
 xm 4 15]
def c215 : AC := (.seq (.reg c215r0 [0, 1]) (.seq (.block 0 (.loop c215l0)) (.seq (.seq (.reg c215r3 [0, 12]) (.cond (xt 12) (.seq (.reg c215r4 [4]) .ret) .skip)) (.seq (.reg c215r5 [4]) .ret))))
def c215R : List AR := [.t 4]
theorem k215 : chkF Tryz.prog GLx 215 2 c215 c215R = true := by kernel_rfl
def c216r0 : List GI := [xo (.mv 6 (.c (.v (.bool false))))]
def c216r1 : List GI := [xm 7 1,
 xm 8 0,
 xb 9 .leq (xt 7) (xt 8),
 xm 10 9,
 xg 10 true (.mv 11 (xt 0)),
 xg 10 true (.mv 12 (xt 2)),
 xg 10 true (.p 13 (.bin .leq (xt 11) (xt 12))),
 xp 14 (.pick (xt 10) (xt 13) (.c (.v (.bool false)))),
 xm 6 14]
def c216 : AC := (.seq (.reg c216r0 [0, 1, 2]) (.seq (.reg c216r1 [6]) .ret))
def c216R : List AR := [.t 6]
theorem k216 : chkF Tryz.prog GLx 216 3 c216 c216R = true := by kernel_rfl
def c217r0 : List GI := [xo (.box 3 (xt 1)),
 xo (.mv 4 (.c (.v (.bool false))))]
def c217r1 : List GI := [xn 5 0,
 xp 6 (.mkf 288 [(xt 3)]),
 xc 7 277 [(xt 5), (xt 6)],
 xp 8 (.not (xt 7)),
 xm 4 8]
def c217 : AC := (.seq (.reg c217r0 [0, 3]) (.seq (.reg c217r1 [4]) .ret))
def c217R : List AR := [.t 4]
theorem k217 : chkF Tryz.prog GLx 217 2 c217 c217R = true := by kernel_rfl
def c218r0 : List GI := [xo (.box 2 (xt 0)),
 xo (.mv 3 (.c (.v (.bool false))))]
def c218r1 : List GI := [xa 4 2 0 2,
 xa 5 4 0 1,
 xl 6 5 1,
 xl 7 1 1,
 xb 8 .sub (xt 7) (xi 1),
 xc 9 216 [(xt 6), (xi 0), (xt 8)],
 xm 10 9,
 xg 10 true (.p 11 (.faddr (xt 2) 0 2)),
 xg 10 true (.p 12 (.faddr (xt 11) 1 1)),
 xg 10 true (.p 13 (.load (xt 12) 1 false)),
 xg 10 true (.call (some 14) (xf 216) [(xt 13), (xi 0), (xi 63)]),
 xp 15 (.pick (xt 10) (xt 14) (.c (.v (.bool false)))),
 xm 16 15,
 xg 16 true (.p 17 (.faddr (xt 2) 2 1)),
 xg 16 true (.p 18 (.load (xt 17) 1 false)),
 xg 16 true (.call (some 19) (xf 216) [(xt 18), (xi 0), (xi 131072)]),
 xp 20 (.pick (xt 16) (xt 19) (.c (.v (.bool false)))),
 xm 21 20,
 xg 21 true (.p 22 (.faddr (xt 2) 3 1)),
 xg 21 true (.p 23 (.load (xt 22) 1 false)),
 xg 21 true (.call (some 24) (xf 216) [(xt 23), (xi 0), (xi 4095)]),
 xp 25 (.pick (xt 21) (xt 24) (.c (.v (.bool false)))),
 xm 3 25]
def c218 : AC := (.seq (.reg c218r0 [1, 2]) (.seq (.reg c218r1 [3]) .ret))
def c218R : List AR := [.t 3]
theorem k218 : chkF Tryz.prog GLx 218 2 c218 c218R = true := by kernel_rfl
def c219r0 : List GI := [xo (.mv 4 (.c (.v (.bool false))))]
def c219r1 : List GI := [xm 6 0,
 xp 7 (.alen (xt 6)),
 xb 8 .sub (xt 7) (xi 1),
 xp 9 (.minmax true (xt 8) (xi 0)),
 xo (.mv 10 (xi 0))]
def c219r2 : List GI := [xb 11 .lss (xt 10) (xt 9)]
def c219r3 : List GI := [xm 12 10,
 xm 5 12]
def c219r4 : List GI := [xm 13 1,
 xm 14 0,
 xm 15 5,
 xp 16 (.iaddr (xt 14) (xt 15) 4),
 xp 17 (.load (xt 16) 4 true),
 xm 18 0,
 xm 19 5,
 xb 20 .add (xt 19) (xi 1),
 xp 21 (.iaddr (xt 18) (xt 20) 4),
 xp 22 (.load (xt 21) 4 true),
 xo (.callF (some 23) (xt 13) [(xt 17), (xt 22)]),
 xp 24 (.not (xt 23))]
def c219r5 : List GI := [xo (.mv 4 (.c (.v (.bool false))))]
def c219r6 : List GI := [xb 25 .add (xt 10) (xi 1),
 xm 10 25]
def c219l0 : AC := (.seq (.reg c219r2 [0, 1, 9, 10, 11]) (.seq (.cond (xt 11) .skip (.exit 0)) (.seq (.block 1 (.seq (.reg c219r3 [0, 1, 5, 9, 10]) (.seq (.regD c219r4 [0, 1, 9, 10, 24] [[], [], [], [1, 2], [1, 2, 3], [], [], [6], [5, 6, 7], [5, 6, 7, 8], [0, 1, 2, 3, 4, 5, 6, 7, 8, 9], [0, 1, 2, 3, 4, 5, 6, 7, 8, 9, 10]]) (.cond (xt 24) (.seq (.reg c219r5 [4]) .ret) .skip)))) (.reg c219r6 [0, 1, 9, 10]))))
def c219r7 : List GI := [xo (.mv 4 (.c (.v (.bool true))))]
def c219 : AC := (.seq (.reg c219r0 [0, 1]) (.seq (.seq (.reg c219r1 [0, 1, 9, 10]) (.block 0 (.loop c219l0))) (.seq (.reg c219r7 [4]) .ret)))
def c219R : List AR := [.t 4]
theorem k219 : chkF Tryz.prog GLx 219 2 c219 c219R = true := by kernel_rfl
def c220r0 : List GI := [xo (.box 2 (xt 0)),
 xo (.box 3 (xt 1)),
 xo (.mv 4 (.c (.v (.bool false))))]
def c220r1 : List GI := [xa 5 2 0 2,
 xa 6 5 0 1,
 xl 7 6 1,
 xa 8 3 0 2,
 xa 9 8 0 1,
 xl 10 9 1,
 xb 11 .lss (xt 7) (xt 10),
 xm 12 11,
 xg 12 false (.p 13 (.faddr (xt 2) 0 2)),
 xg 12 false (.p 14 (.faddr (xt 13) 0 1)),
 xg 12 false (.p 15 (.load (xt 14) 1 false)),
 xg 12 false (.p 16 (.faddr (xt 3) 0 2)),
 xg 12 false (.p 17 (.faddr (xt 16) 0 1)),
 xg 12 false (.p 18 (.load (xt 17) 1 false)),
 xg 12 false (.p 19 (.bin .eql (xt 15) (xt 18))),
 xg 12 false (.mv 20 (xt 19)),
 xg 20 true (.p 21 (.faddr (xt 2) 0 2)),
 xg 20 true (.p 22 (.faddr (xt 21) 1 1)),
 xg 20 true (.p 23 (.load (xt 22) 1 false)),
 xg 20 true (.p 24 (.faddr (xt 3) 0 2)),
 xg 20 true (.p 25 (.faddr (xt 24) 1 1)),
 xg 20 true (.p 26 (.load (xt 25) 1 false)),
 xg 20 true (.p 27 (.bin .lss (xt 23) (xt 26))),
 xg 12 false (.p 28 (.pick (xt 20) (xt 27) (.c (.v (.bool false))))),
 xp 29 (.pick (xt 12) (.c (.v (.bool true))) (xt 28)),
 xm 4 29]
def c220 : AC := (.seq (.reg c220r0 [2, 3]) (.seq (.reg c220r1 [4]) .ret))
def c220R : List AR := [.t 4]
theorem k220 : chkF Tryz.prog GLx 220 2 c220 c220R = true := by kernel_rfl
def c221r0 : List GI := [xo (.box 3 (xt 1)),
 xo (.mv 4 (.c (.v (.bool false))))]
def c221r1 : List GI := [xn 5 0,
 xp 6 (.mkf 289 [(xt 3)]),
 xc 7 151 [(xt 5), (xt 6)],
 xp 8 (.not (xt 7)),
 xm 4 8]
def c221 : AC := (.seq (.reg c221r0 [0, 3]) (.seq (.reg c221r1 [4]) .ret))
def c221R : List AR := [.t 4]
theorem k221 : chkF Tryz.prog GLx 221 2 c221 c221R = true := by kernel_rfl
def c222r0 : List GI := [xo (.mv 3 (.c (.v (.bool false))))]
def c222r1 : List GI := [xm 4 0,
 xl 5 1 1,
 xb 6 .sub (xt 5) (xi 1),
 xc 7 216 [(xt 4), (xi 0), (xt 6)],
 xm 3 7]
def c222 : AC := (.seq (.reg c222r0 [0, 1]) (.seq (.reg c222r1 [3]) .ret))
def c222R : List AR := [.t 3]
theorem k222 : chkF Tryz.prog GLx 222 2 c222 c222R = true := by kernel_rfl
def c223r0 : List GI := [xo (.mv 4 (.c (.v (.bool false))))]
def c223r1 : List GI := [xm 6 0,
 xp 7 (.alen (xt 6)),
 xb 8 .sub (xt 7) (xi 1),
 xp 9 (.minmax true (xt 8) (xi 0)),
 xo (.mv 10 (xi 0))]
def c223r2 : List GI := [xb 11 .lss (xt 10) (xt 9)]
def c223r3 : List GI := [xm 12 10,
 xm 5 12]
def c223r4 : List GI := [xm 13 1,
 xm 14 0,
 xm 15 5,
 xp 16 (.iaddr (xt 14) (xt 15) 1),
 xl 17 16 1,
 xm 18 0,
 xm 19 5,
 xb 20 .add (xt 19) (xi 1),
 xp 21 (.iaddr (xt 18) (xt 20) 1),
 xl 22 21 1,
 xo (.callF (some 23) (xt 13) [(xt 17), (xt 22)]),
 xp 24 (.not (xt 23))]
def c223r5 : List GI := [xo (.mv 4 (.c (.v (.bool false))))]
def c223r6 : List GI := [xb 25 .add (xt 10) (xi 1),
 xm 10 25]
def c223l0 : AC := (.seq (.reg c223r2 [0, 1, 9, 10, 11]) (.seq (.cond (xt 11) .skip (.exit 0)) (.seq (.block 1 (.seq (.reg c223r3 [0, 1, 5, 9, 10]) (.seq (.regD c223r4 [0, 1, 9, 10, 24] [[], [], [], [1, 2], [1, 2, 3], [], [], [6], [5, 6, 7], [5, 6, 7, 8], [0, 1, 2, 3, 4, 5, 6, 7, 8, 9], [0, 1, 2, 3, 4, 5, 6, 7, 8, 9, 10]]) (.cond (xt 24) (.seq (.reg c223r5 [4]) .ret) .skip)))) (.reg c223r6 [0, 1, 9, 10]))))
def c223r7 : List GI := [xo (.mv 4 (.c (.v (.bool true))))]
def c223 : AC := (.seq (.reg c223r0 [0, 1]) (.seq (.seq (.reg c223r1 [0, 1, 9, 10]) (.block 0 (.loop c223l0))) (.seq (.reg c223r7 [4]) .ret)))
def c223R : List AR := [.t 4]
theorem k223 : chkF Tryz.prog GLx 223 2 c223 c223R = true := by kernel_rfl
end Go.Va

namespace Go.Va
open Go.Proofs
def c224r0 : List GI := [xo (.mv 4 (.c (.v (.bool false))))]
def c224r1 : List GI := [xm 5 0,
 xm 6 1,
 xb 7 .lss (xt 5) (xt 6),
 xm 4 7]
def c224 : AC := (.seq (.reg c224r0 [0, 1]) (.seq (.reg c224r1 [4]) .ret))
def c224R : List AR := [.t 4]
theorem k224 : chkF Tryz.prog GLx 224 2 c224 c224R = true := by kernel_rfl
def c225r0 : List GI := [xo (.box 3 (xt 1)),
 xo (.mv 4 (.c (.v (.bool false))))]
def c225r1 : List GI := [xn 5 0,
 xp 6 (.mkf 290 [(xt 3)]),
 xc 7 183 [(xt 5), (xt 6)],
 xp 8 (.not (xt 7)),
 xm 4 8]
def c225 : AC := (.seq (.reg c225r0 [0, 3]) (.seq (.reg c225r1 [4]) .ret))
def c225R : List AR := [.t 4]
theorem k225 : chkF Tryz.prog GLx 225 2 c225 c225R = true := by kernel_rfl
def c226r0 : List GI := [xo (.box 1 (xt 0)),
 xo (.mv 2 (.c (.v (.bool false))))]
def c226r1 : List GI := [xa 6 1 1 2,
 xp 7 (.load (xt 6) 2 true),
 xp 8 (.build [.v (.int .i64 0), .v (.int .i64 0)] [(0, 1, (xi 1)), (1, 1, (xi 1))]),
 xc 9 227 [(xt 7), (xt 8)],
 xn 5 9,
 xe 10 5 0,
 xe 11 5 1,
 xm 3 10,
 xm 4 11]
def c226r2 : List GI := [xa 12 1 0 1,
 xl 13 12 1,
 xc 14 216 [(xt 13), (xi 1), (xi 4095)],
 xm 15 14,
 xg 15 true (.mv 16 (xt 4)),
 xg 15 true (.p 17 (.bin .eql (xt 16) (xi 0))),
 xp 18 (.pick (xt 15) (xt 17) (.c (.v (.bool false)))),
 xm 19 18,
 xg 19 true (.mv 20 (xt 3)),
 xg 19 true (.p 21 (.bin .leq (xt 20) (xi 0))),
 xp 22 (.pick (xt 19) (xt 21) (.c (.v (.bool false)))),
 xm 23 22,
 xg 23 true (.p 24 (.faddr (xt 1) 1 2)),
 xg 23 true (.p 25 (.faddr (xt 24) 0 1)),
 xg 23 true (.p 26 (.load (xt 25) 1 false)),
 xg 23 true (.p 27 (.bin .gtr (xt 26) (xi 0))),
 xp 28 (.pick (xt 23) (xt 27) (.c (.v (.bool false)))),
 xm 2 28]
def c226 : AC := (.seq (.reg c226r0 [1]) (.seq (.reg c226r1 [1, 3, 4]) (.seq (.reg c226r2 [2]) .ret)))
def c226R : List AR := [.t 2]
theorem k226 : chkF Tryz.prog GLx 226 1 c226 c226R = true := by kernel_rfl
def c227r0 : List GI := [xo (.box 2 (xt 0)),
 xo (.box 3 (xt 1)),
 xo (.mv 4 (xi 0)),
 xo (.mv 5 (xi 0))]
def c227r1 : List GI := [xp 7 (.load (xt 2) 2 true),
 xp 8 (.load (xt 3) 2 true),
 xo (.bsl 9 133 2 [(xt 7), (xt 8)]),
 xc 10 291 [(xt 9)],
 xm 6 10]
def c227r2 : List GI := [xm 11 6,
 xb 12 .neq (xt 11) (xi 0)]
def c227r3 : List GI := [xm 13 6,
 xo (.mv 4 (xi 0)),
 xm 5 13]
def c227r4 : List GI := [xp 14 (.load (xt 2) 2 true),
 xp 15 (.load (xt 3) 2 true),
 xc 16 292 [(xt 14), (xt 15)],
 xm 4 16,
 xo (.mv 5 (xi 0))]
def c227 : AC := (.seq (.reg c227r0 [2, 3]) (.seq (.seq (.reg c227r1 [2, 3, 6]) (.seq (.reg c227r2 [2, 3, 6, 12]) (.cond (xt 12) (.seq (.reg c227r3 [4, 5]) .ret) .skip))) (.seq (.reg c227r4 [4, 5]) .ret)))
def c227R : List AR := [.t 4, .t 5]
theorem k227 : chkF Tryz.prog GLx 227 2 c227 c227R = true := by kernel_rfl
def c228r0 : List GI := [xo (.mv 4 (.c (.v (.bool false))))]
def c228r1 : List GI := [xm 6 0,
 xp 7 (.alen (xt 6)),
 xb 8 .sub (xt 7) (xi 1),
 xp 9 (.minmax true (xt 8) (xi 0)),
 xo (.mv 10 (xi 0))]
def c228r2 : List GI := [xb 11 .lss (xt 10) (xt 9)]
def c228r3 : List GI := [xm 12 10,
 xm 5 12]
def c228r4 : List GI := [xm 13 1,
 xm 14 0,
 xm 15 5,
 xp 16 (.iaddr (xt 14) (xt 15) 3),
 xp 17 (.load (xt 16) 3 true),
 xm 18 0,
 xm 19 5,
 xb 20 .add (xt 19) (xi 1),
 xp 21 (.iaddr (xt 18) (xt 20) 3),
 xp 22 (.load (xt 21) 3 true),
 xo (.callF (some 23) (xt 13) [(xt 17), (xt 22)]),
 xp 24 (.not (xt 23))]
def c228r5 : List GI := [xo (.mv 4 (.c (.v (.bool false))))]
def c228r6 : List GI := [xb 25 .add (xt 10) (xi 1),
 xm 10 25]
def c228l0 : AC := (.seq (.reg c228r2 [0, 1, 9, 10, 11]) (.seq (.cond (xt 11) .skip (.exit 0)) (.seq (.block 1 (.seq (.reg c228r3 [0, 1, 5, 9, 10]) (.seq (.regD c228r4 [0, 1, 9, 10, 24] [[], [], [], [1, 2], [1, 2, 3], [], [], [6], [5, 6, 7], [5, 6, 7, 8], [0, 1, 2, 3, 4, 5, 6, 7, 8, 9], [0, 1, 2, 3, 4, 5, 6, 7, 8, 9, 10]]) (.cond (xt 24) (.seq (.reg c228r5 [4]) .ret) .skip)))) (.reg c228r6 [0, 1, 9, 10]))))
def c228r7 : List GI := [xo (.mv 4 (.c (.v (.bool true))))]
def c228 : AC := (.seq (.reg c228r0 [0, 1]) (.seq (.seq (.reg c228r1 [0, 1, 9, 10]) (.block 0 (.loop c228l0))) (.seq (.reg c228r7 [4]) .ret)))
def c228R : List AR := [.t 4]
theorem k228 : chkF Tryz.prog GLx 228 2 c228 c228R = true := by kernel_rfl
def c229r0 : List GI := [xo (.box 2 (xt 0)),
 xo (.box 3 (xt 1)),
 xo (.mv 4 (.c (.v (.bool false))))]
def c229r1 : List GI := [xa 5 2 0 1,
 xl 6 5 1,
 xa 7 3 0 1,
 xl 8 7 1,
 xb 9 .lss (xt 6) (xt 8),
 xm 4 9]
def c229 : AC := (.seq (.reg c229r0 [2, 3]) (.seq (.reg c229r1 [4]) .ret))
def c229R : List AR := [.t 4]
theorem k229 : chkF Tryz.prog GLx 229 2 c229 c229R = true := by kernel_rfl
def c230r0 : List GI := [xo (.box 3 (xt 1)),
 xo (.mv 4 (.c (.v (.bool false))))]
def c230r1 : List GI := [xn 5 0,
 xp 6 (.mkf 294 [(xt 3)]),
 xc 7 293 [(xt 5), (xt 6)],
 xp 8 (.not (xt 7)),
 xm 4 8]
def c230 : AC := (.seq (.reg c230r0 [0, 3]) (.seq (.reg c230r1 [4]) .ret))
def c230R : List AR := [.t 4]
theorem k230 : chkF Tryz.prog GLx 230 2 c230 c230R = true := by kernel_rfl
def c231r0 : List GI := [xo (.box 1 (xt 0)),
 xo (.mv 2 (.c (.v (.bool false))))]
def c231r1 : List GI := [xa 3 1 0 1,
 xl 4 3 1,
 xc 5 216 [(xt 4), (xi 1), (xi 4095)],
 xm 6 5,
 xg 6 true (.p 7 (.faddr (xt 1) 1 1)),
 xg 6 true (.p 8 (.load (xt 7) 1 false)),
 xg 6 true (.call (some 9) (xf 216) [(xt 8), (xi 1), (xi 4095)]),
 xp 10 (.pick (xt 6) (xt 9) (.c (.v (.bool false)))),
 xm 11 10,
 xg 11 true (.p 12 (.faddr (xt 1) 2 1)),
 xg 11 true (.p 13 (.load (xt 12) 1 false)),
 xg 11 true (.p 14 (.faddr (xt 1) 3 1)),
 xg 11 true (.p 15 (.load (xt 14) 1 false)),
 xg 11 true (.call (some 16) (xf 216) [(xt 13), (xi 0), (xt 15)]),
 xp 17 (.pick (xt 11) (xt 16) (.c (.v (.bool false)))),
 xm 18 17,
 xg 18 true (.p 19 (.faddr (xt 1) 3 1)),
 xg 18 true (.p 20 (.load (xt 19) 1 false)),
 xg 18 true (.p 21 (.bin .leq (xt 20) (xi 131072))),
 xp 22 (.pick (xt 18) (xt 21) (.c (.v (.bool false)))),
 xm 2 22]
def c231 : AC := (.seq (.reg c231r0 [1]) (.seq (.reg c231r1 [2]) .ret))
def c231R : List AR := [.t 2]
theorem k231 : chkF Tryz.prog GLx 231 1 c231 c231R = true := by kernel_rfl
def c232r0 : List GI := [xo (.box 1 (xt 0)),
 xo (.mv 2 (.c (.own 5 1 []))),
 xo (.mv 3 (xi 0))]
def c232r1 : List GI := [xp 9 (.load (xt 1) 4 true),
 xc 10 66 [(xt 9)],
 xm 4 10]
def c232r2 : List GI := [xm 11 4,
 xb 12 .neq (xt 11) (xi 0)]
def c232r3 : List GI := [xm 13 4,
 xo (.mv 2 (.c (.own 5 1 []))),
 xm 3 13]
def c232r4 : List GI := [xp 14 (.build [.nil 5 1] []),
 xo (.box 15 (xt 14)),
 xo (.alloc 5 [.v .nilp]),
 xo (.store (xt 5) (xt 15) 1)]
def c232r5 : List GI := [xp 16 (.load (xt 1) 4 true),
 xc 17 68 [(xt 16)]]
def c232r6 : List GI := [xo (.alloc 6 [.v (.int .i64 0), .v (.int .i64 0), .own 368 8 [], .own 84 4 []]),
 xo (.store (xt 6) (xt 18) 4)]
def c232r7 : List GI := [xl 19 5 1,
 xa 20 6 0 1,
 xl 21 20 1,
 xc 22 98 [(xt 19), (xt 21)]]
def c232r8 : List GI := [xl 23 5 1,
 xa 24 6 1 1,
 xl 25 24 1,
 xc 26 98 [(xt 23), (xt 25)]]
def c232r9 : List GI := [xl 27 5 1,
 xa 28 6 2 1,
 xl 29 28 1,
 xp 30 (.alen (xt 29)),
 xc 31 98 [(xt 27), (xt 30)]]
def c232r10 : List GI := [xa 32 6 2 1,
 xl 33 32 1,
 xp 34 (.alen (xt 33)),
 xo (.mv 35 (xi 0))]
def c232r11 : List GI := [xb 36 .lss (xt 35) (xt 34)]
def c232r12 : List GI := [xp 37 (.iaddr (xt 33) (xt 35) 8),
 xp 38 (.load (xt 37) 8 true),
 xo (.alloc 8 [.v (.int .i64 0), .v (.int .i64 0), .v (.int .i64 0), .v (.int .i64 0), .v (.bool false), .v (.bool false), .v (.bool false), .v (.bool false)]),
 xo (.store (xt 8) (xt 38) 8)]
def c232r13 : List GI := [xl 39 5 1,
 xa 40 8 0 2,
 xa 41 40 0 1,
 xl 42 41 1,
 xa 43 8 0 2,
 xa 44 43 1 1,
 xl 45 44 1,
 xa 46 8 2 2,
 xa 47 46 0 1,
 xl 48 47 1,
 xa 49 8 2 2,
 xa 50 49 1 1,
 xl 51 50 1,
 xa 52 8 4 1,
 xl 53 52 1,
 xc 54 295 [(xt 53)],
 xa 55 8 5 1,
 xl 56 55 1,
 xc 57 295 [(xt 56)],
 xa 58 8 6 1,
 xl 59 58 1,
 xc 60 295 [(xt 59)],
 xa 61 8 7 1,
 xl 62 61 1,
 xc 63 295 [(xt 62)],
 xo (.bsl 64 3 1 [(xt 42), (xt 45), (xt 48), (xt 51), (xt 54), (xt 57), (xt 60), (xt 63)]),
 xo (.callF (some 65) (xf 100) [(xt 39), (xt 64)])]
def c232r14 : List GI := [xb 66 .add (xt 35) (xi 1),
 xm 35 66]
def c232l1 : AC := (.seq (.reg c232r11 [5, 6, 33, 34, 35, 36]) (.seq (.cond (xt 36) .skip (.exit 2)) (.seq (.block 3 (.seq (.reg c232r12 [5, 6, 8, 33, 34, 35]) (.regD c232r13 [5, 6, 33, 34, 35] [[], [], [1], [1, 2], [], [4], [4, 5], [], [7], [7, 8], [], [10], [10, 11], [], [13], [13, 14], [], [16], [13, 14, 15, 16, 17], [], [19], [13, 14, 15, 16, 17, 18, 19, 20], [], [22], [13, 14, 15, 16, 17, 18, 19, 20, 21, 22, 23], [1, 2, 3, 4, 5, 6, 7, 8, 9, 10, 11, 12, 13, 14, 15, 16, 17, 18, 19, 20, 21, 22, 23, 24], [0, 1, 2, 3, 4, 5, 6, 7, 8, 9, 10, 11, 12, 13, 14, 15, 16, 17, 18, 19, 20, 21, 22, 23, 24, 25]]))) (.reg c232r14 [5, 6, 33, 34, 35]))))
def c232r15 : List GI := [xl 67 5 1,
 xa 68 6 3 1,
 xl 69 68 1,
 xp 70 (.alen (xt 69)),
 xc 71 98 [(xt 67), (xt 70)]]
def c232a0 : AC := (.reg c232r6 [5, 6])
def c232b0 : AC := (.block 1 (.seq (.reg c232r7 [5, 6]) (.seq (.reg c232r8 [5, 6]) (.seq (.reg c232r9 [5, 6]) (.seq (.seq (.reg c232r10 [5, 6, 33, 34, 35]) (.block 2 (.loop c232l1))) (.reg c232r15 []))))))
def c232r16 : List GI := [xl 72 5 1,
 xc 73 102 [(xt 72)],
 xn 2 73,
 xo (.mv 3 (xi 0))]
def c232 : AC := (.seq (.reg c232r0 [1]) (.seq (.seq (.reg c232r1 [1, 4]) (.seq (.reg c232r2 [1, 4, 12]) (.cond (xt 12) (.seq (.reg c232r3 [2, 3]) .ret) .skip))) (.seq (.reg c232r4 [1, 5]) (.seq (.seq (.reg c232r5 [5, 17]) (.block 0 (.rangeF (xt 17) [18] c232a0 c232b0))) (.seq (.reg c232r16 [2, 3]) .ret)))))
def c232R : List AR := [.t 2, .t 3]
theorem k232 : chkF Tryz.prog GLx 232 1 c232 c232R = true := by kernel_rfl
def c233r0 : List GI := [xo (.box 3 (xt 1)),
 xo (.alloc 4 [.v (.int .u64 0), .v (.bool false)])]
def c233r1 : List GI := [xm 8 0,
 xp 9 (.nilc (xt 8)),
 xa 10 9 1 1,
 xl 11 10 1,
 xp 12 (.load (xt 3) 2 true),
 xp 13 (.look (xt 11) (xt 12) true [0, 0] [.v (.int .u64 0)] false true),
 xn 7 13,
 xe 14 7 0,
 xe 15 7 1,
 xm 5 14,
 xm 6 15]
def c233r2 : List GI := [xm 16 5,
 xm 17 6,
 xp 18 (.build [.v (.int .u64 0), .v (.bool false)] [(0, 1, (xt 16)), (1, 1, (xt 17))]),
 xo (.store (xt 4) (xt 18) 2)]
def c233 : AC := (.seq (.reg c233r0 [0, 3, 4]) (.seq (.regD c233r1 [4, 5, 6] [[], [0], [0, 1], [0, 1, 2], [], [0, 1, 2, 3, 4], [0, 1, 2, 3, 4, 5], [0, 1, 2, 3, 4, 5, 6], [0, 1, 2, 3, 4, 5, 6], [0, 1, 2, 3, 4, 5, 6, 7], [0, 1, 2, 3, 4, 5, 6, 7, 8, 9]]) (.seq (.reg c233r2 [4]) .ret)))
def c233R : List AR := [.c 4 2 true]
theorem k233 : chkF Tryz.prog GLx 233 2 c233 c233R = true := by kernel_rfl
def c234r0 : List GI := [xo (.mv 4 (xj 0))]
def c234r1 : List GI := [xo (.alloc 5 [.own 3 1 []])]
def c234r2 : List GI := [xm 7 1,
 xc 8 296 [(xt 7)]]
def c234r3 : List GI := [xm 6 9]
def c234r4 : List GI := [xo (.take 10 (xt 5)),
 xm 11 6,
 xp 12 (.cint .i64 (xt 11)),
 xo (.bsl 13 3 1 [(xt 12)]),
 xo (.app 14 (xu 10) (xt 13) 3 1 8),
 xo (.store (xt 5) (xu 14) 1)]
def c234a0 : AC := (.reg c234r3 [5, 6])
def c234b0 : AC := (.block 1 (.reg c234r4 []))
def c234r5 : List GI := [xm 15 0,
 xo (.take 16 (xt 5)),
 xn 17 1,
 xp 18 (.alen (xt 17)),
 xo (.bsl 19 3 1 [(xt 18)]),
 xo (.app 20 (xu 16) (xt 19) 3 1 8),
 xc 21 96 [(xt 15), (xt 20)],
 xm 4 21]
def c234 : AC := (.seq (.reg c234r0 [0, 1]) (.seq (.reg c234r1 [0, 1, 5]) (.seq (.seq (.reg c234r2 [0, 1, 5, 8]) (.block 0 (.rangeF (xt 8) [9] c234a0 c234b0))) (.seq (.reg c234r5 [4]) .ret))))
def c234R : List AR := [.t 4]
theorem k234 : chkF Tryz.prog GLx 234 2 c234 c234R = true := by kernel_rfl
def c235r0 : List GI := [xo (.mv 2 (.c (.own 5 1 [])))]
def c235r1 : List GI := [xm 5 0,
 xp 6 (.alen (xt 5)),
 xc 7 104 [(xt 6)],
 xn 3 7]
def c235r2 : List GI := [xo (.mv 4 (xi 0))]
def c235r3 : List GI := [xm 8 4,
 xm 9 0,
 xp 10 (.alen (xt 9)),
 xb 11 .lss (xt 8) (xt 10)]
def c235r5 : List GI := [xn 14 3,
 xm 15 0,
 xm 16 4,
 xp 17 (.iaddr (xt 15) (xt 16) 5),
 xa 18 17 0 1,
 xl 19 18 1,
 xc 20 107 [(xt 19)],
 xo (.app 21 (xu 14) (xt 20) 5 1 1),
 xn 3 21]
def c235r6 : List GI := [xn 22 3,
 xm 23 0,
 xm 24 4,
 xp 25 (.iaddr (xt 23) (xt 24) 5),
 xa 26 25 1 4,
 xp 27 (.load (xt 26) 4 true),
 xc 28 297 [(xt 27)],
 xc 29 105 [(xt 28)],
 xo (.app 30 (xu 22) (xt 29) 5 1 1),
 xn 3 30]
def c235r4 : List GI := [xm 12 4,
 xb 13 .add (xt 12) (xi 1),
 xm 4 13]
def c235l0 : AC := (.seq (.seq (.reg c235r3 [0, 3, 4, 11]) (.cond (xt 11) .skip (.exit 0))) (.seq (.block 1 (.seq (.reg c235r5 [0, 3, 4]) (.reg c235r6 [0, 3, 4]))) (.reg c235r4 [0, 3, 4])))
def c235r7 : List GI := [xn 31 3,
 xn 2 31]
def c235 : AC := (.seq (.reg c235r0 [0]) (.seq (.reg c235r1 [0, 3]) (.seq (.seq (.reg c235r2 [0, 3, 4]) (.block 0 (.loop c235l0))) (.seq (.reg c235r7 [2]) .ret))))
def c235R : List AR := [.t 2]
theorem k235 : chkF Tryz.prog GLx 235 1 c235 c235R = true := by kernel_rfl
def c236r0 : List GI := [xo (.mv 4 (xj 0))]
def c236r1 : List GI := [xm 8 1,
 xc 9 174 [(xt 8)],
 xn 5 9]
def c236r2 : List GI := [xo (.mv 6 (.c (.own 3 1 [])))]
def c236r3 : List GI := [xo (.mv 7 (xi 0))]
def c236r4 : List GI := [xm 10 7,
 xm 11 5,
 xp 12 (.alen (xt 11)),
 xb 13 .lss (xt 10) (xt 12)]
def c236r6 : List GI := [xn 16 6,
 xm 17 5,
 xm 18 7,
 xp 19 (.iaddr (xt 17) (xt 18) 1),
 xl 20 19 1,
 xp 21 (.cint .i64 (xt 20)),
 xo (.bsl 22 3 1 [(xt 21)]),
 xo (.app 23 (xu 16) (xt 22) 3 1 8),
 xn 6 23]
def c236r5 : List GI := [xm 14 7,
 xb 15 .add (xt 14) (xi 1),
 xm 7 15]
def c236l0 : AC := (.seq (.seq (.reg c236r4 [0, 1, 5, 6, 7, 13]) (.cond (xt 13) .skip (.exit 0))) (.seq (.block 1 (.reg c236r6 [0, 1, 5, 6, 7])) (.reg c236r5 [0, 1, 5, 6, 7])))
def c236r7 : List GI := [xm 24 0,
 xn 25 6,
 xn 26 1,
 xp 27 (.alen (xt 26)),
 xo (.bsl 28 3 1 [(xt 27)]),
 xo (.app 29 (xu 25) (xt 28) 3 1 8),
 xc 30 84 [(xt 24), (xt 29)],
 xm 4 30]
def c236 : AC := (.seq (.reg c236r0 [0, 1]) (.seq (.reg c236r1 [0, 1, 5]) (.seq (.reg c236r2 [0, 1, 5, 6]) (.seq (.seq (.reg c236r3 [0, 1, 5, 6, 7]) (.block 0 (.loop c236l0))) (.seq (.reg c236r7 [4]) .ret)))))
def c236R : List AR := [.t 4]
theorem k236 : chkF Tryz.prog GLx 236 2 c236 c236R = true := by kernel_rfl
def c237r0 : List GI := [xo (.mv 2 (.c (.own 3 1 [])))]
def c237r1 : List GI := [xm 4 0,
 xc 5 298 [(xt 4)],
 xn 3 5]
def c237r2 : List GI := [xm 6 3,
 xc 7 299 [(xt 6)]]
def c237r3 : List GI := [xn 8 3,
 xn 2 8]
def c237 : AC := (.seq (.reg c237r0 [0]) (.seq (.reg c237r1 [3]) (.seq (.reg c237r2 [3]) (.seq (.reg c237r3 [2]) .ret))))
def c237R : List AR := [.t 2]
theorem k237 : chkF Tryz.prog GLx 237 1 c237 c237R = true := by kernel_rfl
def c238r0 : List GI := [xo (.box 1 (xt 0)),
 xo (.mv 2 (.c (.v .nilf)))]
def c238r1 : List GI := [xp 3 (.mkf 300 [(xt 1)]),
 xm 2 3]
def c238 : AC := (.seq (.reg c238r0 [1]) (.seq (.reg c238r1 [2]) .ret))
def c238R : List AR := [.t 2]
theorem k238 : chkF Tryz.prog GLx 238 1 c238 c238R = true := by kernel_rfl
def c239r0 : List GI := [xo (.box 2 (xt 0)),
 xo (.box 3 (xt 1)),
 xo (.mv 4 (.c (.v .nilf)))]
def c239r1 : List GI := [xp 5 (.mkf 301 [(xt 2), (xt 3)]),
 xm 4 5]
def c239 : AC := (.seq (.reg c239r0 [2, 3]) (.seq (.reg c239r1 [4]) .ret))
def c239R : List AR := [.t 4]
theorem k239 : chkF Tryz.prog GLx 239 2 c239 c239R = true := by kernel_rfl
def c240r0 : List GI := [xo (.box 1 (xt 0)),
 xo (.mv 2 (xi 0))]
def c240r1 : List GI := [xa 3 1 1 1,
 xl 4 3 1,
 xb 5 .add (xt 4) (xi 1),
 xa 6 1 0 1,
 xl 7 6 1,
 xb 8 .shl (xt 5) (xt 7),
 xb 9 .sub (xt 8) (xi 1),
 xm 2 9]
def c240 : AC := (.seq (.reg c240r0 [1]) (.seq (.reg c240r1 [2]) .ret))
def c240R : List AR := [.t 2]
theorem k240 : chkF Tryz.prog GLx 240 1 c240 c240R = true := by kernel_rfl
def c241r0 : List GI := [xo (.mv 4 (.c (.v (.bool false))))]
def c241r1 : List GI := [xo (.mv 5 (.c (.v (.int .i64 (-1)))))]
def c241r2 : List GI := [xn 8 0,
 xp 9 (.alen (xt 8)),
 xo (.mv 10 (xi 0))]
def c241r3 : List GI := [xb 11 .lss (xt 10) (xt 9)]
def c241r4 : List GI := [xp 12 (.iaddr (xt 8) (xt 10) 1),
 xl 13 12 1,
 xm 7 13]
def c241r5 : List GI := [xm 14 7,
 xm 15 5,
 xb 16 .leq (xt 14) (xt 15),
 xm 17 16,
 xg 17 false (.mv 18 (xt 7)),
 xg 17 false (.mv 19 (xt 1)),
 xg 17 false (.p 20 (.bin .geq (xt 18) (xt 19))),
 xp 21 (.pick (xt 17) (.c (.v (.bool true))) (xt 20))]
def c241r6 : List GI := [xo (.mv 4 (.c (.v (.bool false))))]
def c241r7 : List GI := [xm 22 7,
 xm 5 22]
def c241r8 : List GI := [xb 23 .add (xt 10) (xi 1),
 xm 10 23]
def c241l0 : AC := (.seq (.reg c241r3 [1, 5, 8, 9, 10, 11]) (.seq (.cond (xt 11) .skip (.exit 0)) (.seq (.block 1 (.seq (.reg c241r4 [1, 5, 7, 8, 9, 10]) (.seq (.seq (.reg c241r5 [1, 7, 8, 9, 10, 21]) (.cond (xt 21) (.seq (.reg c241r6 [4]) .ret) .skip)) (.reg c241r7 [1, 5, 8, 9, 10])))) (.reg c241r8 [1, 5, 8, 9, 10]))))
def c241r9 : List GI := [xo (.mv 4 (.c (.v (.bool true))))]
def c241 : AC := (.seq (.reg c241r0 [0, 1]) (.seq (.reg c241r1 [0, 1, 5]) (.seq (.seq (.reg c241r2 [1, 5, 8, 9, 10]) (.block 0 (.loop c241l0))) (.seq (.reg c241r9 [4]) .ret))))
def c241R : List AR := [.t 4]
theorem k241 : chkF Tryz.prog GLx 241 2 c241 c241R = true := by kernel_rfl
def c246r0 : List GI := [xo (.mv 2 (xi 0))]
def c246r1 : List GI := [xm 9 0,
 xp 10 (.alen (xt 9)),
 xo (.mv 11 (xi 0))]
def c246r2 : List GI := [xb 12 .lss (xt 11) (xt 10)]
def c246r3 : List GI := [xm 13 11,
 xp 14 (.iaddr (xt 9) (xt 11) 8),
 xp 15 (.load (xt 14) 8 true),
 xo (.alloc 4 [.v (.int .i64 0), .v (.int .i64 0), .v (.int .i64 0), .v (.int .i64 0), .v (.bool false), .v (.bool false), .v (.bool false), .v (.bool false)]),
 xm 3 13,
 xo (.store (xt 4) (xt 15) 8)]
def c246r4 : List GI := [xp 16 (.load (xt 4) 8 true),
 xc 17 258 [(xt 16)],
 xp 18 (.not (xt 17))]
def c246r5 : List GI := [xo (.mv 2 (xi 1))]
def c246r6 : List GI := [xm 19 3,
 xb 20 .gtr (xt 19) (xi 0)]
def c246r7 : List GI := [xp 22 (.load (xt 4) 8 true),
 xc 23 303 [(xt 22)],
 xn 21 23,
 xe 24 21 0,
 xe 25 21 1,
 xo (.alloc 5 [.v (.int .i64 0), .v (.int .i64 0), .v (.int .i64 0), .v (.bool false)]),
 xo (.alloc 6 [.v (.int .i64 0), .v (.int .i64 0), .v (.int .i64 0), .v (.bool false)]),
 xo (.store (xt 5) (xt 24) 4),
 xo (.store (xt 6) (xt 25) 4)]
def c246r8 : List GI := [xm 27 0,
 xm 28 3,
 xb 29 .sub (xt 28) (xi 1),
 xp 30 (.iaddr (xt 27) (xt 29) 8),
 xp 31 (.load (xt 30) 8 true),
 xc 32 303 [(xt 31)],
 xn 26 32,
 xe 33 26 0,
 xe 34 26 1,
 xo (.alloc 7 [.v (.int .i64 0), .v (.int .i64 0), .v (.int .i64 0), .v (.bool false)]),
 xo (.alloc 8 [.v (.int .i64 0), .v (.int .i64 0), .v (.int .i64 0), .v (.bool false)]),
 xo (.store (xt 7) (xt 33) 4),
 xo (.store (xt 8) (xt 34) 4)]
def c246r9 : List GI := [xp 35 (.load (xt 8) 4 true),
 xp 36 (.load (xt 5) 4 true),
 xc 37 304 [(xt 35), (xt 36)],
 xp 38 (.not (xt 37))]
def c246r10 : List GI := [xo (.mv 2 (xi 1))]
def c246r11 : List GI := [xb 39 .add (xt 11) (xi 1),
 xm 11 39]
def c246l0 : AC := (.seq (.reg c246r2 [0, 9, 10, 11, 12]) (.seq (.cond (xt 12) .skip (.exit 0)) (.seq (.block 1 (.seq (.reg c246r3 [0, 3, 4, 9, 10, 11]) (.seq (.seq (.reg c246r4 [0, 3, 4, 9, 10, 11, 18]) (.cond (xt 18) (.seq (.reg c246r5 [2]) .ret) .skip)) (.seq (.reg c246r6 [0, 3, 4, 9, 10, 11, 20]) (.cond (xt 20) (.seq (.reg c246r7 [0, 3, 5, 9, 10, 11]) (.seq (.reg c246r8 [0, 5, 8, 9, 10, 11]) (.seq (.reg c246r9 [0, 9, 10, 11, 38]) (.cond (xt 38) (.seq (.reg c246r10 [2]) .ret) .skip)))) .skip))))) (.reg c246r11 [0, 9, 10, 11]))))
def c246r12 : List GI := [xn 40 0,
 xc 41 305 [(xt 40)],
 xm 2 41]
def c246 : AC := (.seq (.reg c246r0 [0]) (.seq (.seq (.reg c246r1 [0, 9, 10, 11]) (.block 0 (.loop c246l0))) (.seq (.reg c246r12 [2]) .ret)))
def c246R : List AR := [.t 2]
theorem k246 : chkF Tryz.prog GLx 246 1 c246 c246R = true := by kernel_rfl
def c248r0 : List GI := [xo (.box 1 (xt 0)),
 xo (.mv 2 (xi 0))]
def c248r1 : List GI := [xa 5 1 1 1,
 xl 6 5 1,
 xb 7 .lss (xt 6) (xi 1)]
def c248r2 : List GI := [xo (.mv 2 (xi 1))]
def c248r3 : List GI := [xa 9 1 0 1,
 xl 10 9 1,
 xa 11 1 1 1,
 xl 12 11 1,
 xc 13 306 [(xt 10), (xt 12)],
 xn 8 13,
 xe 14 8 0,
 xe 15 8 1,
 xo (.alloc 3 [.v (.int .i64 0), .v (.int .i64 0)]),
 xo (.store (xt 3) (xt 14) 2),
 xm 4 15]
def c248r4 : List GI := [xm 16 4,
 xb 17 .neq (xt 16) (xi 0),
 xm 18 17,
 xg 18 false (.p 19 (.load (xt 3) 2 true)),
 xg 18 false (.p 20 (.load (xt 1) 2 true)),
 xg 18 false (.p 21 (.eqA true [0, 0] (xt 19) (xt 20))),
 xp 22 (.pick (xt 18) (.c (.v (.bool true))) (xt 21))]
def c248r5 : List GI := [xo (.mv 2 (xi 1))]
def c248r6 : List GI := [xo (.mv 2 (xi 0))]
def c248 : AC := (.seq (.reg c248r0 [1]) (.seq (.seq (.reg c248r1 [1, 7]) (.cond (xt 7) (.seq (.reg c248r2 [2]) .ret) .skip)) (.seq (.seq (.reg c248r3 [1, 3, 4]) (.seq (.reg c248r4 [22]) (.cond (xt 22) (.seq (.reg c248r5 [2]) .ret) .skip))) (.seq (.reg c248r6 [2]) .ret))))
def c248R : List AR := [.t 2]
theorem k248 : chkF Tryz.prog GLx 248 1 c248 c248R = true := by kernel_rfl
def c251r0 : List GI := [xo (.mv 4 (xi 0))]
def c251r1 : List GI := [xm 6 0,
 xp 7 (.alen (xt 6)),
 xo (.mv 8 (xi 0))]
def c251r2 : List GI := [xb 9 .lss (xt 8) (xt 7)]
def c251r3 : List GI := [xm 10 8,
 xm 5 10]
def c251r4 : List GI := [xm 11 1,
 xm 12 0,
 xm 13 5,
 xp 14 (.iaddr (xt 12) (xt 13) 4),
 xp 15 (.load (xt 14) 4 true),
 xo (.call (some 16) (xt 11) [(xt 15)])]
def c251r5 : List GI := [xm 17 5,
 xm 4 17]
def c251r6 : List GI := [xb 18 .add (xt 8) (xi 1),
 xm 8 18]
def c251l0 : AC := (.seq (.reg c251r2 [0, 1, 7, 8, 9]) (.seq (.cond (xt 9) .skip (.exit 0)) (.seq (.block 1 (.seq (.reg c251r3 [0, 1, 5, 7, 8]) (.seq (.reg c251r4 [0, 1, 5, 7, 8, 16]) (.cond (xt 16) (.seq (.reg c251r5 [4]) .ret) .skip)))) (.reg c251r6 [0, 1, 7, 8]))))
def c251r7 : List GI := [xo (.mv 4 (.c (.v (.int .i64 (-1)))))]
def c251 : AC := (.seq (.reg c251r0 [0, 1]) (.seq (.seq (.reg c251r1 [0, 1, 7, 8]) (.block 0 (.loop c251l0))) (.seq (.reg c251r7 [4]) .ret)))
def c251R : List AR := [.t 4]
theorem k251 : chkF Tryz.prog GLx 251 2 c251 c251R = true := by kernel_rfl
def c252r0 : List GI := [xo (.mv 4 (xi 0))]
def c252r1 : List GI := [xm 6 0,
 xp 7 (.alen (xt 6)),
 xo (.mv 8 (xi 0))]
def c252r2 : List GI := [xb 9 .lss (xt 8) (xt 7)]
def c252r3 : List GI := [xm 10 8,
 xm 5 10]
def c252r4 : List GI := [xm 11 1,
 xm 12 0,
 xm 13 5,
 xp 14 (.iaddr (xt 12) (xt 13) 1),
 xl 15 14 1,
 xo (.call (some 16) (xt 11) [(xt 15)])]
def c252r5 : List GI := [xm 17 5,
 xm 4 17]
def c252r6 : List GI := [xb 18 .add (xt 8) (xi 1),
 xm 8 18]
def c252l0 : AC := (.seq (.reg c252r2 [0, 1, 7, 8, 9]) (.seq (.cond (xt 9) .skip (.exit 0)) (.seq (.block 1 (.seq (.reg c252r3 [0, 1, 5, 7, 8]) (.seq (.reg c252r4 [0, 1, 5, 7, 8, 16]) (.cond (xt 16) (.seq (.reg c252r5 [4]) .ret) .skip)))) (.reg c252r6 [0, 1, 7, 8]))))
def c252r7 : List GI := [xo (.mv 4 (.c (.v (.int .i64 (-1)))))]
def c252 : AC := (.seq (.reg c252r0 [0, 1]) (.seq (.seq (.reg c252r1 [0, 1, 7, 8]) (.block 0 (.loop c252l0))) (.seq (.reg c252r7 [4]) .ret)))
def c252R : List AR := [.t 4]
theorem k252 : chkF Tryz.prog GLx 252 2 c252 c252R = true := by kernel_rfl
end Go.Va

namespace Go.Va
open Go.Proofs
def c258r0 : List GI := [xo (.box 1 (xt 0)),
 xo (.mv 2 (.c (.v (.bool false))))]
def c258r1 : List GI := [xo (.mv 3 (xf 308))]
def c258r2 : List GI := [xm 4 3,
 xa 5 1 0 2,
 xp 6 (.load (xt 5) 2 true),
 xa 7 1 4 1,
 xl 8 7 1,
 xa 9 1 6 1,
 xl 10 9 1,
 xo (.call (some 11) (xt 4) [(xt 6), (xt 8), (xt 10)]),
 xp 12 (.not (xt 11)),
 xm 13 12,
 xg 13 false (.mv 14 (xt 3)),
 xg 13 false (.p 15 (.faddr (xt 1) 2 2)),
 xg 13 false (.p 16 (.load (xt 15) 2 true)),
 xg 13 false (.p 17 (.faddr (xt 1) 5 1)),
 xg 13 false (.p 18 (.load (xt 17) 1 false)),
 xg 13 false (.p 19 (.faddr (xt 1) 7 1)),
 xg 13 false (.p 20 (.load (xt 19) 1 false)),
 xg 13 false (.call (some 21) (xt 14) [(xt 16), (xt 18), (xt 20)]),
 xg 13 false (.p 22 (.not (xt 21))),
 xp 23 (.pick (xt 13) (.c (.v (.bool true))) (xt 22))]
def c258r3 : List GI := [xo (.mv 2 (.c (.v (.bool false))))]
def c258r4 : List GI := [xp 24 (.load (xt 1) 8 true),
 xc 25 303 [(xt 24)],
 xe 26 25 0,
 xe 27 25 1,
 xc 28 304 [(xt 26), (xt 27)],
 xm 2 28]
def c258 : AC := (.seq (.reg c258r0 [1]) (.seq (.reg c258r1 [1, 3]) (.seq (.seq (.reg c258r2 [1, 23]) (.cond (xt 23) (.seq (.reg c258r3 [2]) .ret) .skip)) (.seq (.reg c258r4 [2]) .ret))))
def c258R : List AR := [.t 2]
theorem k258 : chkF Tryz.prog GLx 258 1 c258 c258R = true := by kernel_rfl
def c270r0 : List GI := [xo (.mv 4 (.c (.v (.bool false))))]
def c270r1 : List GI := [xm 5 0,
 xb 6 .geq (xt 5) (xi 0),
 xm 7 6,
 xg 7 true (.mv 8 (xt 0)),
 xg 7 true (.mv 9 (xt 1)),
 xg 7 true (.p 10 (.bin .leq (xt 8) (xt 9))),
 xp 11 (.pick (xt 7) (xt 10) (.c (.v (.bool false)))),
 xm 4 11]
def c270 : AC := (.seq (.reg c270r0 [0, 1]) (.seq (.reg c270r1 [4]) .ret))
def c270R : List AR := [.t 4]
theorem k270 : chkF Tryz.prog GLx 270 2 c270 c270R = true := by kernel_rfl
def c271r0 : List GI := [xo (.box 1 (xt 0)),
 xo (.mv 2 (xi 0))]
def c271r1 : List GI := [xa 3 1 1 1,
 xl 4 3 1,
 xa 5 1 0 1,
 xl 6 5 1,
 xb 7 .shl (xt 4) (xt 6),
 xm 2 7]
def c271 : AC := (.seq (.reg c271r0 [1]) (.seq (.reg c271r1 [2]) .ret))
def c271R : List AR := [.t 2]
theorem k271 : chkF Tryz.prog GLx 271 1 c271 c271R = true := by kernel_rfl
def c272r0 : List GI := [xo (.mv 4 (xi 0))]
def c272r1 : List GI := [xm 6 0,
 xp 7 (.alen (xt 6)),
 xo (.mv 8 (xi 0))]
def c272r2 : List GI := [xb 9 .lss (xt 8) (xt 7)]
def c272r3 : List GI := [xm 10 8,
 xm 5 10]
def c272r4 : List GI := [xm 11 1,
 xm 12 0,
 xm 13 5,
 xp 14 (.iaddr (xt 12) (xt 13) 3),
 xp 15 (.load (xt 14) 3 true),
 xo (.call (some 16) (xt 11) [(xt 15)])]
def c272r5 : List GI := [xm 17 5,
 xm 4 17]
def c272r6 : List GI := [xb 18 .add (xt 8) (xi 1),
 xm 8 18]
def c272l0 : AC := (.seq (.reg c272r2 [0, 1, 7, 8, 9]) (.seq (.cond (xt 9) .skip (.exit 0)) (.seq (.block 1 (.seq (.reg c272r3 [0, 1, 5, 7, 8]) (.seq (.reg c272r4 [0, 1, 5, 7, 8, 16]) (.cond (xt 16) (.seq (.reg c272r5 [4]) .ret) .skip)))) (.reg c272r6 [0, 1, 7, 8]))))
def c272r7 : List GI := [xo (.mv 4 (.c (.v (.int .i64 (-1)))))]
def c272 : AC := (.seq (.reg c272r0 [0, 1]) (.seq (.seq (.reg c272r1 [0, 1, 7, 8]) (.block 0 (.loop c272l0))) (.seq (.reg c272r7 [4]) .ret)))
def c272R : List AR := [.t 4]
theorem k272 : chkF Tryz.prog GLx 272 2 c272 c272R = true := by kernel_rfl
def c277r0 : List GI := [xo (.mv 4 (.c (.v (.bool false))))]
def c277r1 : List GI := [xn 5 0,
 xm 6 1,
 xc 7 318 [(xt 5), (xt 6)],
 xb 8 .geq (xt 7) (xi 0),
 xm 4 8]
def c277 : AC := (.seq (.reg c277r0 [0, 1]) (.seq (.reg c277r1 [4]) .ret))
def c277R : List AR := [.t 4]
theorem k277 : chkF Tryz.prog GLx 277 2 c277 c277R = true := by kernel_rfl
def c279r0 : List GI := [xo (.mv 3 (xi 0))]
def c279r1 : List GI := [xm 6 3,
 xl 7 1 1,
 xp 8 (.lenS (xt 7)),
 xb 9 .lss (xt 6) (xt 8)]
def c279r3 : List GI := [xo (.mv 4 (xj 0))]
def c279r4 : List GI := [xm 12 3,
 xm 5 12]
def c279r5 : List GI := [xm 13 5,
 xm 14 3,
 xb 15 .add (xt 14) (xi 8),
 xl 16 1 1,
 xp 17 (.lenS (xt 16)),
 xp 18 (.minmax false (xt 15) (xt 17)),
 xb 19 .lss (xt 13) (xt 18)]
def c279r7 : List GI := [xm 22 4,
 xl 23 1 1,
 xm 24 5,
 xp 25 (.idxS (xt 23) (xt 24)),
 xp 26 (.cint .u64 (xt 25)),
 xm 27 5,
 xm 28 3,
 xb 29 .sub (xt 27) (xt 28),
 xb 30 .mul (xi 8) (xt 29),
 xb 31 .shl (xt 26) (xt 30),
 xb 32 .or (xt 22) (xt 31),
 xm 4 32]
def c279r6 : List GI := [xm 20 5,
 xb 21 .add (xt 20) (xi 1),
 xm 5 21]
def c279l1 : AC := (.seq (.seq (.reg c279r5 [0, 1, 3, 4, 5, 19]) (.cond (xt 19) .skip (.exit 2))) (.seq (.block 3 (.reg c279r7 [0, 1, 3, 4, 5])) (.reg c279r6 [0, 1, 3, 4, 5])))
def c279r8 : List GI := [xm 33 0,
 xm 34 4,
 xo (.call (some 35) (xt 33) [(xt 34)]),
 xp 36 (.not (xt 35))]
def c279r2 : List GI := [xm 10 3,
 xb 11 .add (xt 10) (xi 8),
 xm 3 11]
def c279l0 : AC := (.seq (.seq (.reg c279r1 [0, 1, 3, 9]) (.cond (xt 9) .skip (.exit 0))) (.seq (.block 1 (.seq (.reg c279r3 [0, 1, 3, 4]) (.seq (.seq (.reg c279r4 [0, 1, 3, 4, 5]) (.block 2 (.loop c279l1))) (.seq (.reg c279r8 [0, 1, 3, 36]) (.cond (xt 36) .ret .skip))))) (.reg c279r2 [0, 1, 3])))
def c279 : AC := (.seq (.reg c279r0 [0, 1, 3]) (.block 0 (.loop c279l0)))
def c279R : List AR := []
theorem k279 : chkF Tryz.prog GLx 279 2 c279 c279R = true := by kernel_rfl
def c284r0 : List GI := [xo (.mv 4 (.c (.v (.bool false))))]
def c284r1 : List GI := [xm 5 0,
 xc 6 321 [(xt 5)],
 xm 7 6,
 xg 7 true (.mv 8 (xt 1)),
 xg 7 true (.call (some 9) (xf 321) [(xt 8)]),
 xg 7 true (.p 10 (.not (xt 9))),
 xp 11 (.pick (xt 7) (xt 10) (.c (.v (.bool false)))),
 xm 12 11,
 xg 12 false (.mv 13 (xt 0)),
 xg 12 false (.mv 14 (xt 1)),
 xg 12 false (.p 15 (.bin .lss (xt 13) (xt 14))),
 xp 16 (.pick (xt 12) (.c (.v (.bool true))) (xt 15)),
 xm 4 16]
def c284 : AC := (.seq (.reg c284r0 [0, 1]) (.seq (.reg c284r1 [4]) .ret))
def c284R : List AR := [.t 4]
theorem k284 : chkF Tryz.prog GLx 284 2 c284 c284R = true := by kernel_rfl
def c285r0 : List GI := [xo (.box 1 (xt 0)),
 xo (.mv 2 (xi 0))]
def c285r1 : List GI := [xo (.mv 3 (xi 1))]
def c285r2 : List GI := [xo (.mv 4 (xi 0))]
def c285r3 : List GI := [xm 5 4,
 xa 6 1 3 1,
 xl 7 6 1,
 xp 8 (.alen (xt 7)),
 xb 9 .lss (xt 5) (xt 8)]
def c285r5 : List GI := [xm 12 3,
 xa 13 1 3 1,
 xl 14 13 1,
 xm 15 4,
 xp 16 (.iaddr (xt 14) (xt 15) 4),
 xp 17 (.load (xt 16) 4 true),
 xc 18 285 [(xt 17)],
 xb 19 .add (xt 12) (xt 18),
 xm 3 19]
def c285r4 : List GI := [xm 10 4,
 xb 11 .add (xt 10) (xi 1),
 xm 4 11]
def c285l0 : AC := (.seq (.seq (.reg c285r3 [1, 3, 4, 9]) (.cond (xt 9) .skip (.exit 0))) (.seq (.block 1 (.reg c285r5 [1, 3, 4])) (.reg c285r4 [1, 3, 4])))
def c285r6 : List GI := [xm 20 3,
 xm 2 20]
def c285 : AC := (.seq (.reg c285r0 [1]) (.seq (.reg c285r1 [1, 3]) (.seq (.seq (.reg c285r2 [1, 3, 4]) (.block 0 (.loop c285l0))) (.seq (.reg c285r6 [2]) .ret))))
def c285R : List AR := [.t 2]
theorem k285 : chkF Tryz.prog GLx 285 1 c285 c285R = true := by kernel_rfl
def c286r0 : List GI := [xo (.box 1 (xt 0)),
 xo (.mv 2 (xi 0))]
def c286r1 : List GI := [xo (.mv 3 (xi 0))]
def c286r2 : List GI := [xo (.mv 4 (xi 0))]
def c286r3 : List GI := [xm 5 4,
 xa 6 1 3 1,
 xl 7 6 1,
 xp 8 (.alen (xt 7)),
 xb 9 .lss (xt 5) (xt 8)]
def c286r5 : List GI := [xm 12 3,
 xa 13 1 3 1,
 xl 14 13 1,
 xm 15 4,
 xp 16 (.iaddr (xt 14) (xt 15) 4),
 xp 17 (.load (xt 16) 4 true),
 xc 18 286 [(xt 17)],
 xp 19 (.minmax true (xt 12) (xt 18)),
 xm 3 19]
def c286r4 : List GI := [xm 10 4,
 xb 11 .add (xt 10) (xi 1),
 xm 4 11]
def c286l0 : AC := (.seq (.seq (.reg c286r3 [1, 3, 4, 9]) (.cond (xt 9) .skip (.exit 0))) (.seq (.block 1 (.reg c286r5 [1, 3, 4])) (.reg c286r4 [1, 3, 4])))
def c286r6 : List GI := [xm 20 3,
 xb 21 .add (xt 20) (xi 1),
 xm 2 21]
def c286 : AC := (.seq (.reg c286r0 [1]) (.seq (.reg c286r1 [1, 3]) (.seq (.seq (.reg c286r2 [1, 3, 4]) (.block 0 (.loop c286l0))) (.seq (.reg c286r6 [2]) .ret))))
def c286R : List AR := [.t 2]
theorem k286 : chkF Tryz.prog GLx 286 1 c286 c286R = true := by kernel_rfl
def c287r0 : List GI := [xo (.box 1 (xt 0)),
 xo (.mv 2 (.c (.v (.bool false))))]
def c287r1 : List GI := [xp 4 (.load (xt 1) 4 true),
 xc 5 322 [(xt 4)],
 xp 6 (.not (xt 5))]
def c287r2 : List GI := [xo (.mv 2 (.c (.v (.bool false))))]
def c287r3 : List GI := [xo (.mv 3 (xi 0))]
def c287r4 : List GI := [xm 7 3,
 xa 8 1 3 1,
 xl 9 8 1,
 xp 10 (.alen (xt 9)),
 xb 11 .lss (xt 7) (xt 10)]
def c287r6 : List GI := [xa 14 1 3 1,
 xl 15 14 1,
 xm 16 3,
 xp 17 (.iaddr (xt 15) (xt 16) 4),
 xp 18 (.load (xt 17) 4 true),
 xc 19 287 [(xt 18)],
 xp 20 (.not (xt 19))]
def c287r7 : List GI := [xo (.mv 2 (.c (.v (.bool false))))]
def c287r5 : List GI := [xm 12 3,
 xb 13 .add (xt 12) (xi 1),
 xm 3 13]
def c287l0 : AC := (.seq (.seq (.reg c287r4 [1, 3, 11]) (.cond (xt 11) .skip (.exit 0))) (.seq (.block 1 (.seq (.reg c287r6 [1, 3, 20]) (.cond (xt 20) (.seq (.reg c287r7 [2]) .ret) .skip))) (.reg c287r5 [1, 3])))
def c287r8 : List GI := [xo (.mv 2 (.c (.v (.bool true))))]
def c287 : AC := (.seq (.reg c287r0 [1]) (.seq (.seq (.reg c287r1 [1, 6]) (.cond (xt 6) (.seq (.reg c287r2 [2]) .ret) .skip)) (.seq (.seq (.reg c287r3 [1, 3]) (.block 0 (.loop c287l0))) (.seq (.reg c287r8 [2]) .ret))))
def c287R : List AR := [.t 2]
theorem k287 : chkF Tryz.prog GLx 287 1 c287 c287R = true := by kernel_rfl
end Go.Va

namespace Go.Va
open Go.Proofs
def c288r0 : List GI := [xo (.box 2 (xt 0)),
 xo (.mv 3 (.c (.v (.bool false))))]
def c288r1 : List GI := [xl 4 1 1,
 xp 5 (.load (xt 2) 4 true),
 xo (.call (some 6) (xt 4) [(xt 5)]),
 xp 7 (.not (xt 6)),
 xm 3 7]
def c288 : AC := (.seq (.reg c288r0 [1, 2]) (.seq (.reg c288r1 [3]) .ret))
def c288R : List AR := [.t 3]
theorem k288 : chkF Tryz.prog GLx 288 2 c288 c288R = true := by kernel_rfl
def c289r0 : List GI := [xo (.mv 3 (.c (.v (.bool false))))]
def c289r1 : List GI := [xl 4 1 1,
 xm 5 0,
 xo (.call (some 6) (xt 4) [(xt 5)]),
 xp 7 (.not (xt 6)),
 xm 3 7]
def c289 : AC := (.seq (.reg c289r0 [0, 1]) (.seq (.reg c289r1 [3]) .ret))
def c289R : List AR := [.t 3]
theorem k289 : chkF Tryz.prog GLx 289 2 c289 c289R = true := by kernel_rfl
def c290r0 : List GI := [xo (.box 2 (xt 0)),
 xo (.mv 3 (.c (.v (.bool false))))]
def c290r1 : List GI := [xl 4 1 1,
 xp 5 (.load (xt 2) 3 true),
 xo (.call (some 6) (xt 4) [(xt 5)]),
 xp 7 (.not (xt 6)),
 xm 3 7]
def c290 : AC := (.seq (.reg c290r0 [1, 2]) (.seq (.reg c290r1 [3]) .ret))
def c290R : List AR := [.t 3]
theorem k290 : chkF Tryz.prog GLx 290 2 c290 c290R = true := by kernel_rfl
def c291r0 : List GI := [xo (.mv 2 (xi 0))]
def c291r1 : List GI := [xn 6 0,
 xp 7 (.alen (xt 6)),
 xo (.mv 8 (xi 0))]
def c291r2 : List GI := [xb 9 .lss (xt 8) (xt 7)]
def c291r3 : List GI := [xp 10 (.iaddr (xt 6) (xt 8) 2),
 xp 11 (.load (xt 10) 2 true),
 xo (.alloc 4 [.v (.int .i64 0), .v (.int .i64 0)]),
 xo (.store (xt 4) (xt 11) 2)]
def c291r4 : List GI := [xp 12 (.load (xt 4) 2 true),
 xc 13 248 [(xt 12)],
 xm 5 13]
def c291r5 : List GI := [xm 14 5,
 xb 15 .neq (xt 14) (xi 0)]
def c291r6 : List GI := [xm 16 5,
 xm 2 16]
def c291r7 : List GI := [xb 17 .add (xt 8) (xi 1),
 xm 8 17]
def c291l0 : AC := (.seq (.reg c291r2 [6, 7, 8, 9]) (.seq (.cond (xt 9) .skip (.exit 0)) (.seq (.block 1 (.seq (.reg c291r3 [4, 6, 7, 8]) (.seq (.reg c291r4 [5, 6, 7, 8]) (.seq (.reg c291r5 [5, 6, 7, 8, 15]) (.cond (xt 15) (.seq (.reg c291r6 [2]) .ret) .skip))))) (.reg c291r7 [6, 7, 8]))))
def c291r8 : List GI := [xo (.mv 2 (xi 0))]
def c291 : AC := (.seq (.reg c291r0 [0]) (.seq (.seq (.reg c291r1 [6, 7, 8]) (.block 0 (.loop c291l0))) (.seq (.reg c291r8 [2]) .ret)))
def c291R : List AR := [.t 2]
theorem k291 : chkF Tryz.prog GLx 291 1 c291 c291R = true := by kernel_rfl
def c292r0 : List GI := [xo (.box 2 (xt 0)),
 xo (.box 3 (xt 1)),
 xo (.mv 4 (xi 0))]
def c292r1 : List GI := [xa 7 2 0 1,
 xl 8 7 1,
 xa 9 3 1 1,
 xl 10 9 1,
 xb 11 .mul (xt 8) (xt 10),
 xa 12 3 0 1,
 xl 13 12 1,
 xa 14 2 1 1,
 xl 15 14 1,
 xb 16 .mul (xt 13) (xt 15),
 xm 5 11,
 xm 6 16]
def c292r2 : List GI := [xm 18 5,
 xm 19 6,
 xb 20 .lss (xt 18) (xt 19),
 xm 17 20]
def c292r3 : List GI := [xo (.mv 4 (.c (.v (.int .i64 (-1)))))]
def c292r4 : List GI := [xm 22 5,
 xm 23 6,
 xb 24 .gtr (xt 22) (xt 23),
 xm 21 24]
def c292r5 : List GI := [xo (.mv 4 (xi 1))]
def c292r6 : List GI := [xo (.mv 4 (xi 0))]
def c292 : AC := (.seq (.reg c292r0 [2, 3]) (.seq (.seq (.regD c292r1 [5, 6] [[], [0], [], [2], [0, 1, 2, 3], [], [5], [], [7], [5, 6, 7, 8], [0, 1, 2, 3, 4], [0, 1, 2, 3, 4, 5, 6, 7, 8, 9, 10]]) (.block 0 (.seq (.reg c292r2 [5, 6, 17]) (.cond (xt 17) (.seq (.reg c292r3 [4]) .ret) (.seq (.reg c292r4 [21]) (.cond (xt 21) (.seq (.reg c292r5 [4]) .ret) .skip)))))) (.seq (.reg c292r6 [4]) .ret)))
def c292R : List AR := [.t 4]
theorem k292 : chkF Tryz.prog GLx 292 2 c292 c292R = true := by kernel_rfl
def c293r0 : List GI := [xo (.mv 4 (.c (.v (.bool false))))]
def c293r1 : List GI := [xn 5 0,
 xm 6 1,
 xc 7 323 [(xt 5), (xt 6)],
 xb 8 .geq (xt 7) (xi 0),
 xm 4 8]
def c293 : AC := (.seq (.reg c293r0 [0, 1]) (.seq (.reg c293r1 [4]) .ret))
def c293R : List AR := [.t 4]
theorem k293 : chkF Tryz.prog GLx 293 2 c293 c293R = true := by kernel_rfl
def c294r0 : List GI := [xo (.box 2 (xt 0)),
 xo (.mv 3 (.c (.v (.bool false))))]
def c294r1 : List GI := [xl 4 1 1,
 xp 5 (.load (xt 2) 4 true),
 xo (.call (some 6) (xt 4) [(xt 5)]),
 xp 7 (.not (xt 6)),
 xm 3 7]
def c294 : AC := (.seq (.reg c294r0 [1, 2]) (.seq (.reg c294r1 [3]) .ret))
def c294R : List AR := [.t 3]
theorem k294 : chkF Tryz.prog GLx 294 2 c294 c294R = true := by kernel_rfl
def c295r0 : List GI := [xo (.mv 2 (xi 0))]
def c295r1 : List GI := [xm 3 0]
def c295r2 : List GI := [xo (.mv 2 (xi 1))]
def c295r3 : List GI := [xo (.mv 2 (xi 0))]
def c295 : AC := (.seq (.reg c295r0 [0]) (.seq (.seq (.reg c295r1 [3]) (.cond (xt 3) (.seq (.reg c295r2 [2]) .ret) .skip)) (.seq (.reg c295r3 [2]) .ret)))
def c295R : List AR := [.t 2]
theorem k295 : chkF Tryz.prog GLx 295 1 c295 c295R = true := by kernel_rfl
def c296r0 : List GI := [xo (.box 1 (xt 0)),
 xo (.mv 2 (.c (.v .nilf)))]
def c296r1 : List GI := [xp 3 (.mkf 324 [(xt 1)]),
 xm 2 3]
def c296 : AC := (.seq (.reg c296r0 [1]) (.seq (.reg c296r1 [2]) .ret))
def c296R : List AR := [.t 2]
theorem k296 : chkF Tryz.prog GLx 296 1 c296 c296R = true := by kernel_rfl
def c297r0 : List GI := [xo (.box 1 (xt 0)),
 xo (.mv 2 (.c (.own 5 1 [])))]
def c297r1 : List GI := [xa 6 1 0 1,
 xl 7 6 1,
 xo (.callC (some 8) (xf 104) [(xt 7)]),
 xa 9 1 1 1,
 xl 10 9 1,
 xo (.callC (some 11) (xf 104) [(xt 10)]),
 xo (.app 12 (xu 8) (xt 11) 5 1 1),
 xn 3 12]
def c297r2 : List GI := [xn 13 3,
 xa 14 1 2 1,
 xl 15 14 1,
 xp 16 (.alen (xt 15)),
 xc 17 104 [(xt 16)],
 xo (.app 18 (xu 13) (xt 17) 5 1 1),
 xn 3 18]
def c297r3 : List GI := [xo (.mv 4 (xi 0))]
def c297r4 : List GI := [xm 19 4,
 xa 20 1 2 1,
 xl 21 20 1,
 xp 22 (.alen (xt 21)),
 xb 23 .lss (xt 19) (xt 22)]
def c297r6 : List GI := [xn 26 3,
 xa 27 1 2 1,
 xl 28 27 1,
 xm 29 4,
 xp 30 (.iaddr (xt 28) (xt 29) 8),
 xp 31 (.load (xt 30) 8 true),
 xc 32 325 [(xt 31)],
 xo (.app 33 (xu 26) (xt 32) 5 1 1),
 xn 3 33]
def c297r5 : List GI := [xm 24 4,
 xb 25 .add (xt 24) (xi 1),
 xm 4 25]
def c297l0 : AC := (.seq (.seq (.reg c297r4 [1, 3, 4, 23]) (.cond (xt 23) .skip (.exit 0))) (.seq (.block 1 (.reg c297r6 [1, 3, 4])) (.reg c297r5 [1, 3, 4])))
def c297r7 : List GI := [xn 34 3,
 xa 35 1 3 1,
 xl 36 35 1,
 xp 37 (.alen (xt 36)),
 xc 38 104 [(xt 37)],
 xo (.app 39 (xu 34) (xt 38) 5 1 1),
 xn 3 39]
def c297r8 : List GI := [xo (.mv 5 (xi 0))]
def c297r9 : List GI := [xm 40 5,
 xa 41 1 3 1,
 xl 42 41 1,
 xp 43 (.alen (xt 42)),
 xb 44 .lss (xt 40) (xt 43)]
def c297r11 : List GI := [xn 47 3,
 xa 48 1 3 1,
 xl 49 48 1,
 xm 50 5,
 xp 51 (.iaddr (xt 49) (xt 50) 4),
 xp 52 (.load (xt 51) 4 true),
 xc 53 297 [(xt 52)],
 xo (.app 54 (xu 47) (xt 53) 5 1 1),
 xn 3 54]
def c297r10 : List GI := [xm 45 5,
 xb 46 .add (xt 45) (xi 1),
 xm 5 46]
def c297l1 : AC := (.seq (.seq (.reg c297r9 [1, 3, 5, 44]) (.cond (xt 44) .skip (.exit 2))) (.seq (.block 3 (.reg c297r11 [1, 3, 5])) (.reg c297r10 [1, 3, 5])))
def c297r12 : List GI := [xn 55 3,
 xn 2 55]
def c297 : AC := (.seq (.reg c297r0 [1]) (.seq (.regA c297r1 [1, 3] [[], [0], [0, 1], [], [3], [0, 1, 2, 3, 4], [0, 1, 2, 3, 4, 5], [0, 1, 2, 3, 4, 5, 6]] (.take 0 (.take 1 (.take 3 (.take 4 (.take 2 (.take 5 (.take 6 (.take 7 .done))))))))) (.seq (.reg c297r2 [1, 3]) (.seq (.seq (.reg c297r3 [1, 3, 4]) (.block 0 (.loop c297l0))) (.seq (.reg c297r7 [1, 3]) (.seq (.seq (.reg c297r8 [1, 3, 5]) (.block 2 (.loop c297l1))) (.seq (.reg c297r12 [2]) .ret)))))))
def c297R : List AR := [.t 2]
theorem k297 : chkF Tryz.prog GLx 297 1 c297 c297R = true := by kernel_rfl
def c299r0 : List GI := [xm 3 0,
 xp 4 (.alen (xt 3)),
 xm 2 4]
def c299r1 : List GI := [xn 5 0,
 xm 6 2,
 xm 7 2,
 xp 8 (.cint .u64 (xt 7)),
 xc 9 328 [(xt 8)],
 xc 10 327 [(xt 5), (xi 0), (xt 6), (xt 9)]]
def c299 : AC := (.seq (.reg c299r0 [0, 2]) (.reg c299r1 []))
def c299R : List AR := []
theorem k299 : chkF Tryz.prog GLx 299 1 c299 c299R = true := by kernel_rfl
def c301r0 : List GI := [xo (.box 3 (xt 0))]
def c301r1 : List GI := [xo (.alloc 4 [.v .nilf])]
def c301r2 : List GI := [xp 5 (.mkf 302 [(xt 1), (xt 2), (xt 3), (xt 4)]),
 xo (.store (xt 4) (xt 5) 1)]
def c301r3 : List GI := [xl 6 4 1,
 xp 7 (.load (.g 0 [.int .i64 12, .int .i64 0]) 2 true),
 xo (.call (some 8) (xt 6) [(xt 7)])]
def c301 : AC := (.seq (.reg c301r0 [1, 2, 3]) (.seq (.reg c301r1 [1, 2, 3, 4]) (.seq (.reg c301r2 [4]) (.reg c301r3 []))))
def c301R : List AR := []
theorem k301 : chkF Tryz.prog GLx 301 3 c301 c301R = true := by kernel_rfl
def c302r0 : List GI := [xo (.box 5 (xt 0)),
 xo (.mv 6 (.c (.v (.bool false))))]
def c302r1 : List GI := [xp 9 (.load (xt 5) 2 true),
 xc 10 240 [(xt 9)],
 xl 11 1 1,
 xb 12 .lss (xt 10) (xt 11),
 xm 13 12,
 xg 13 false (.p 14 (.load (xt 5) 2 true)),
 xg 13 false (.call (some 15) (xf 271) [(xt 14)]),
 xg 13 false (.p 16 (.load (xt 2) 1 false)),
 xg 13 false (.p 17 (.bin .gtr (xt 15) (xt 16))),
 xp 18 (.pick (xt 13) (.c (.v (.bool true))) (xt 17))]
def c302r2 : List GI := [xl 19 3 1,
 xp 20 (.load (xt 5) 2 true),
 xo (.call (some 21) (xt 19) [(xt 20)]),
 xm 6 21]
def c302r3 : List GI := [xp 22 (.load (xt 5) 2 true),
 xc 23 271 [(xt 22)],
 xl 24 1 1,
 xb 25 .geq (xt 23) (xt 24),
 xm 26 25,
 xg 26 true (.p 27 (.load (xt 5) 2 true)),
 xg 26 true (.call (some 28) (xf 240) [(xt 27)]),
 xg 26 true (.p 29 (.load (xt 2) 1 false)),
 xg 26 true (.p 30 (.bin .leq (xt 28) (xt 29))),
 xp 31 (.pick (xt 26) (xt 30) (.c (.v (.bool false))))]
def c302r4 : List GI := [xo (.mv 6 (.c (.v (.bool true))))]
def c302r5 : List GI := [xp 33 (.load (xt 5) 2 true),
 xc 34 181 [(xt 33)],
 xn 32 34,
 xe 35 32 0,
 xe 36 32 1,
 xo (.alloc 7 [.v (.int .i64 0), .v (.int .i64 0)]),
 xo (.alloc 8 [.v (.int .i64 0), .v (.int .i64 0)]),
 xo (.store (xt 7) (xt 35) 2),
 xo (.store (xt 8) (xt 36) 2)]
def c302r6 : List GI := [xl 37 4 1,
 xp 38 (.load (xt 7) 2 true),
 xo (.call (some 39) (xt 37) [(xt 38)]),
 xm 40 39,
 xg 40 true (.p 41 (.load (xt 4) 1 false)),
 xg 40 true (.p 42 (.load (xt 8) 2 true)),
 xg 40 true (.call (some 43) (xt 41) [(xt 42)]),
 xp 44 (.pick (xt 40) (xt 43) (.c (.v (.bool false)))),
 xm 6 44]
def c302 : AC := (.seq (.reg c302r0 [1, 2, 3, 4, 5]) (.seq (.seq (.regD c302r1 [1, 2, 3, 4, 5, 18] [[], [0], [], [0, 1, 2], [0, 1, 2, 3], [0, 1, 2, 3, 4], [0, 1, 2, 3, 4, 5], [0, 1, 2, 3, 4], [0, 1, 2, 3, 4, 5, 6, 7], [0, 1, 2, 3, 4, 5, 6, 7, 8]]) (.cond (xt 18) (.seq (.reg c302r2 [6]) .ret) .skip)) (.seq (.seq (.regD c302r3 [4, 5, 31] [[], [0], [], [0, 1, 2], [0, 1, 2, 3], [0, 1, 2, 3, 4], [0, 1, 2, 3, 4, 5], [0, 1, 2, 3, 4], [0, 1, 2, 3, 4, 5, 6, 7], [0, 1, 2, 3, 4, 5, 6, 7, 8]]) (.cond (xt 31) (.seq (.reg c302r4 [6]) .ret) .skip)) (.seq (.reg c302r5 [4, 7, 8]) (.seq (.reg c302r6 [6]) .ret)))))
def c302R : List AR := [.t 6]
theorem k302 : chkF Tryz.prog GLx 302 5 c302 c302R = true := by kernel_rfl
def c303r0 : List GI := [xo (.box 1 (xt 0)),
 xo (.alloc 2 [.v (.int .i64 0), .v (.int .i64 0), .v (.int .i64 0), .v (.bool false)]),
 xo (.alloc 3 [.v (.int .i64 0), .v (.int .i64 0), .v (.int .i64 0), .v (.bool false)])]
def c303r1 : List GI := [xa 6 1 0 2,
 xp 7 (.load (xt 6) 2 true),
 xa 8 1 4 1,
 xl 9 8 1,
 xp 10 (.build [.v (.int .i64 0), .v (.int .i64 0), .v (.int .i64 0), .v (.bool false)] [(0, 1, (xi 0)), (1, 2, (xt 7)), (3, 1, (xt 9))]),
 xa 11 1 2 2,
 xp 12 (.load (xt 11) 2 true),
 xa 13 1 5 1,
 xl 14 13 1,
 xp 15 (.not (xt 14)),
 xp 16 (.build [.v (.int .i64 0), .v (.int .i64 0), .v (.int .i64 0), .v (.bool false)] [(0, 1, (xi 0)), (1, 2, (xt 12)), (3, 1, (xt 15))]),
 xo (.alloc 4 [.v (.int .i64 0), .v (.int .i64 0), .v (.int .i64 0), .v (.bool false)]),
 xo (.alloc 5 [.v (.int .i64 0), .v (.int .i64 0), .v (.int .i64 0), .v (.bool false)]),
 xo (.store (xt 4) (xt 10) 4),
 xo (.store (xt 5) (xt 16) 4)]
def c303r2 : List GI := [xa 17 1 6 1,
 xl 18 17 1]
def c303r3 : List GI := [xp 19 (.build [.v (.int .i64 0), .v (.int .i64 0), .v (.int .i64 0), .v (.bool false)] [(0, 1, (.c (.v (.int .i64 (-1)))))]),
 xo (.store (xt 4) (xt 19) 4)]
def c303r4 : List GI := [xa 20 1 7 1,
 xl 21 20 1]
def c303r5 : List GI := [xp 22 (.build [.v (.int .i64 0), .v (.int .i64 0), .v (.int .i64 0), .v (.bool false)] [(0, 1, (xi 1))]),
 xo (.store (xt 5) (xt 22) 4)]
def c303r6 : List GI := [xp 23 (.load (xt 4) 4 true),
 xp 24 (.load (xt 5) 4 true),
 xo (.store (xt 2) (xt 23) 4),
 xo (.store (xt 3) (xt 24) 4)]
def c303 : AC := (.seq (.reg c303r0 [1, 2, 3]) (.seq (.regA c303r1 [1, 2, 3, 4, 5] [[], [0], [], [2], [0, 1, 2, 3], [], [5], [], [7], [7, 8], [5, 6, 7, 8, 9], [], [], [0, 1, 2, 3, 4, 11, 12], [0, 1, 2, 3, 4, 5, 6, 7, 8, 9, 10, 11, 12, 13]] (.take 0 (.take 1 (.take 2 (.take 3 (.take 4 (.take 5 (.take 7 (.pick (.alt 6 (.pick (.alt 8 (.take 9 (.take 10 (.pick (.alt 11 (.take 12 (.take 13 (.take 14 .done))) (.alt 12 (.take 11 (.take 13 (.take 14 .done))) .none))))) (.alt 11 (.pick (.alt 8 (.take 9 (.take 10 (.take 12 (.take 13 (.take 14 .done))))) (.alt 12 (.pick (.alt 8 (.take 9 (.take 10 (.take 13 (.take 14 .done)))) (.alt 13 (.take 8 (.take 9 (.take 10 (.take 14 .done)))) .none))) .none))) (.alt 12 (.pick (.alt 8 (.take 9 (.take 10 (.take 11 (.take 13 (.take 14 .done))))) (.alt 11 (.pick (.alt 8 (.take 9 (.take 10 (.take 13 (.take 14 .done)))) (.alt 13 (.take 8 (.take 9 (.take 10 (.take 14 .done)))) .none))) .none))) .none)))) (.alt 8 (.take 9 (.pick (.alt 6 (.take 10 (.pick (.alt 11 (.take 12 (.take 13 (.take 14 .done))) (.alt 12 (.take 11 (.take 13 (.take 14 .done))) .none)))) (.alt 11 (.pick (.alt 6 (.take 10 (.take 12 (.take 13 (.take 14 .done)))) (.alt 12 (.pick (.alt 6 (.take 10 (.take 13 (.take 14 .done))) (.alt 13 (.take 6 (.take 10 (.take 14 .done))) .none))) .none))) (.alt 12 (.pick (.alt 6 (.take 10 (.take 11 (.take 13 (.take 14 .done)))) (.alt 11 (.pick (.alt 6 (.take 10 (.take 13 (.take 14 .done))) (.alt 13 (.take 6 (.take 10 (.take 14 .done))) .none))) .none))) .none))))) (.alt 11 (.pick (.alt 6 (.pick (.alt 8 (.take 9 (.take 10 (.take 12 (.take 13 (.take 14 .done))))) (.alt 12 (.pick (.alt 8 (.take 9 (.take 10 (.take 13 (.take 14 .done)))) (.alt 13 (.take 8 (.take 9 (.take 10 (.take 14 .done)))) .none))) .none))) (.alt 8 (.take 9 (.pick (.alt 6 (.take 10 (.take 12 (.take 13 (.take 14 .done)))) (.alt 12 (.pick (.alt 6 (.take 10 (.take 13 (.take 14 .done))) (.alt 13 (.take 6 (.take 10 (.take 14 .done))) .none))) .none)))) (.alt 12 (.pick (.alt 6 (.pick (.alt 8 (.take 9 (.take 10 (.take 13 (.take 14 .done)))) (.alt 13 (.take 8 (.take 9 (.take 10 (.take 14 .done)))) .none))) (.alt 8 (.take 9 (.pick (.alt 6 (.take 10 (.take 13 (.take 14 .done))) (.alt 13 (.take 6 (.take 10 (.take 14 .done))) .none)))) (.alt 13 (.take 6 (.take 8 (.take 9 (.take 10 (.take 14 .done))))) .none)))) .none)))) (.alt 12 (.pick (.alt 6 (.pick (.alt 8 (.take 9 (.take 10 (.take 11 (.take 13 (.take 14 .done))))) (.alt 11 (.pick (.alt 8 (.take 9 (.take 10 (.take 13 (.take 14 .done)))) (.alt 13 (.take 8 (.take 9 (.take 10 (.take 14 .done)))) .none))) .none))) (.alt 8 (.take 9 (.pick (.alt 6 (.take 10 (.take 11 (.take 13 (.take 14 .done)))) (.alt 11 (.pick (.alt 6 (.take 10 (.take 13 (.take 14 .done))) (.alt 13 (.take 6 (.take 10 (.take 14 .done))) .none))) .none)))) (.alt 11 (.pick (.alt 6 (.pick (.alt 8 (.take 9 (.take 10 (.take 13 (.take 14 .done)))) (.alt 13 (.take 8 (.take 9 (.take 10 (.take 14 .done)))) .none))) (.alt 8 (.take 9 (.pick (.alt 6 (.take 10 (.take 13 (.take 14 .done))) (.alt 13 (.take 6 (.take 10 (.take 14 .done))) .none)))) (.alt 13 (.take 6 (.take 8 (.take 9 (.take 10 (.take 14 .done))))) .none)))) .none)))) .none))))))))))))) (.seq (.seq (.reg c303r2 [1, 2, 3, 4, 5, 18]) (.cond (xt 18) (.reg c303r3 [1, 2, 3, 4, 5]) .skip)) (.seq (.seq (.reg c303r4 [2, 3, 4, 5, 21]) (.cond (xt 21) (.reg c303r5 [2, 3, 4, 5]) .skip)) (.seq (.regA c303r6 [2, 3] [[], [], [0], [0, 1, 2]] (.take 0 (.pick (.alt 1 (.take 2 (.take 3 .done)) (.alt 2 (.take 1 (.take 3 .done)) .none))))) .ret)))))
def c303R : List AR := [.c 2 4 true, .c 3 4 true]
theorem k303 : chkF Tryz.prog GLx 303 1 c303 c303R = true := by kernel_rfl
def c304r0 : List GI := [xo (.box 2 (xt 0)),
 xo (.box 3 (xt 1)),
 xo (.mv 4 (.c (.v (.bool false))))]
def c304r1 : List GI := [xa 7 2 0 1,
 xl 8 7 1,
 xa 9 3 0 1,
 xl 10 9 1,
 xb 11 .neq (xt 8) (xt 10)]
def c304r2 : List GI := [xa 12 2 0 1,
 xl 13 12 1,
 xa 14 3 0 1,
 xl 15 14 1,
 xb 16 .lss (xt 13) (xt 15),
 xm 4 16]
def c304r3 : List GI := [xa 17 2 0 1,
 xl 18 17 1,
 xb 19 .neq (xt 18) (xi 0)]
def c304r4 : List GI := [xo (.mv 4 (.c (.v (.bool false))))]
def c304r5 : List GI := [xa 20 2 1 2,
 xa 21 20 0 1,
 xl 22 21 1,
 xa 23 3 1 2,
 xa 24 23 1 1,
 xl 25 24 1,
 xb 26 .mul (xt 22) (xt 25),
 xa 27 3 1 2,
 xa 28 27 0 1,
 xl 29 28 1,
 xa 30 2 1 2,
 xa 31 30 1 1,
 xl 32 31 1,
 xb 33 .mul (xt 29) (xt 32),
 xm 5 26,
 xm 6 33]
def c304r6 : List GI := [xm 34 5,
 xm 35 6,
 xb 36 .neq (xt 34) (xt 35)]
def c304r7 : List GI := [xm 37 5,
 xm 38 6,
 xb 39 .lss (xt 37) (xt 38),
 xm 4 39]
def c304r8 : List GI := [xa 40 2 3 1,
 xl 41 40 1,
 xp 42 (.not (xt 41)),
 xm 43 42,
 xg 43 true (.p 44 (.faddr (xt 3) 3 1)),
 xg 43 true (.p 45 (.load (xt 44) 1 false)),
 xp 46 (.pick (xt 43) (xt 45) (.c (.v (.bool false)))),
 xm 4 46]
def c304 : AC := (.seq (.reg c304r0 [2, 3]) (.seq (.seq (.reg c304r1 [2, 3, 11]) (.cond (xt 11) (.seq (.reg c304r2 [4]) .ret) .skip)) (.seq (.seq (.reg c304r3 [2, 3, 19]) (.cond (xt 19) (.seq (.reg c304r4 [4]) .ret) .skip)) (.seq (.seq (.regD c304r5 [2, 3, 5, 6] [[], [0], [0, 1], [], [3], [3, 4], [0, 1, 2, 3, 4, 5], [], [7], [7, 8], [], [10], [10, 11], [7, 8, 9, 10, 11, 12], [0, 1, 2, 3, 4, 5, 6], [0, 1, 2, 3, 4, 5, 6, 7, 8, 9, 10, 11, 12, 13, 14]]) (.seq (.reg c304r6 [2, 3, 5, 6, 36]) (.cond (xt 36) (.seq (.reg c304r7 [4]) .ret) .skip))) (.seq (.reg c304r8 [4]) .ret)))))
def c304R : List AR := [.t 4]
theorem k304 : chkF Tryz.prog GLx 304 2 c304 c304R = true := by kernel_rfl
def c305r0 : List GI := [xo (.mv 2 (xi 0))]
def c305r1 : List GI := [xn 3 0,
 xp 4 (.alen (xt 3)),
 xb 5 .gtr (xt 4) (xi 32)]
def c305r2 : List GI := [xo (.mv 2 (xi 4))]
def c305r3 : List GI := [xo (.mv 2 (xi 0))]
def c305 : AC := (.seq (.reg c305r0 [0]) (.seq (.seq (.reg c305r1 [5]) (.cond (xt 5) (.seq (.reg c305r2 [2]) .ret) .skip)) (.seq (.reg c305r3 [2]) .ret)))
def c305R : List AR := [.t 2]
theorem k305 : chkF Tryz.prog GLx 305 1 c305 c305R = true := by kernel_rfl
def c306r0 : List GI := [xo (.alloc 4 [.v (.int .i64 0), .v (.int .i64 0)]),
 xo (.mv 5 (xi 0))]
def c306r1 : List GI := [xm 6 1,
 xb 7 .eql (xt 6) (xi 0)]
def c306r2 : List GI := [xp 8 (.build [.v (.int .i64 0), .v (.int .i64 0)] []),
 xo (.store (xt 4) (xt 8) 2),
 xo (.mv 5 (xi 1))]
def c306r3 : List GI := [xm 9 0,
 xb 10 .lss (xt 9) (xi 0),
 xm 11 1,
 xb 12 .lss (xt 11) (xi 0),
 xp 13 (.eqB true (xt 10) (xt 12)),
 xm 14 0,
 xc 15 330 [(xt 14)],
 xm 16 1,
 xc 17 330 [(xt 16)],
 xc 18 329 [(xt 13), (xt 15), (xt 17)],
 xe 19 18 0,
 xe 20 18 1,
 xo (.store (xt 4) (xt 19) 2),
 xm 5 20]
def c306 : AC := (.seq (.reg c306r0 [0, 1, 4]) (.seq (.seq (.reg c306r1 [0, 1, 4, 7]) (.cond (xt 7) (.seq (.reg c306r2 [4, 5]) .ret) .skip)) (.seq (.reg c306r3 [4, 5]) .ret)))
def c306R : List AR := [.c 4 2 true, .t 5]
theorem k306 : chkF Tryz.prog GLx 306 2 c306 c306R = true := by kernel_rfl
def c308r0 : List GI := [xo (.box 3 (xt 0)),
 xo (.mv 6 (.c (.v (.bool false))))]
def c308r1 : List GI := [xm 7 2]
def c308r2 : List GI := [xp 8 (.load (xt 3) 2 true),
 xp 9 (.build [.v (.int .i64 0), .v (.int .i64 0)] []),
 xp 10 (.eqA false [0, 0] (xt 8) (xt 9)),
 xm 11 10,
 xg 11 true (.mv 12 (xt 1)),
 xg 11 true (.p 13 (.not (xt 12))),
 xp 14 (.pick (xt 11) (xt 13) (.c (.v (.bool false)))),
 xm 6 14]
def c308r3 : List GI := [xp 15 (.load (xt 3) 2 true),
 xc 16 309 [(xt 15)],
 xm 6 16]
def c308 : AC := (.seq (.reg c308r0 [1, 2, 3]) (.seq (.seq (.reg c308r1 [1, 3, 7]) (.cond (xt 7) (.seq (.reg c308r2 [6]) .ret) .skip)) (.seq (.reg c308r3 [6]) .ret)))
def c308R : List AR := [.t 6]
theorem k308 : chkF Tryz.prog GLx 308 3 c308 c308R = true := by kernel_rfl
def c309r0 : List GI := [xo (.box 1 (xt 0)),
 xo (.mv 2 (.c (.v (.bool false))))]
def c309r1 : List GI := [xp 3 (.load (xt 1) 2 true),
 xc 4 248 [(xt 3)],
 xb 5 .eql (xt 4) (xi 0),
 xm 6 5,
 xg 6 true (.p 7 (.faddr (xt 1) 0 1)),
 xg 6 true (.p 8 (.load (xt 7) 1 false)),
 xg 6 true (.p 9 (.bin .geq (xt 8) (.c (.v (.int .i64 (-1073741824)))))),
 xp 10 (.pick (xt 6) (xt 9) (.c (.v (.bool false)))),
 xm 11 10,
 xg 11 true (.p 12 (.faddr (xt 1) 0 1)),
 xg 11 true (.p 13 (.load (xt 12) 1 false)),
 xg 11 true (.p 14 (.bin .leq (xt 13) (xi 1073741824))),
 xp 15 (.pick (xt 11) (xt 14) (.c (.v (.bool false)))),
 xm 16 15,
 xg 16 true (.p 17 (.faddr (xt 1) 1 1)),
 xg 16 true (.p 18 (.load (xt 17) 1 false)),
 xg 16 true (.p 19 (.bin .leq (xt 18) (xi 32768))),
 xp 20 (.pick (xt 16) (xt 19) (.c (.v (.bool false)))),
 xm 2 20]
def c309 : AC := (.seq (.reg c309r0 [1]) (.seq (.reg c309r1 [2]) .ret))
def c309R : List AR := [.t 2]
theorem k309 : chkF Tryz.prog GLx 309 1 c309 c309R = true := by kernel_rfl
def c318r0 : List GI := [xo (.mv 4 (xi 0))]
def c318r1 : List GI := [xm 6 0,
 xp 7 (.alen (xt 6)),
 xo (.mv 8 (xi 0))]
def c318r2 : List GI := [xb 9 .lss (xt 8) (xt 7)]
def c318r3 : List GI := [xm 10 8,
 xm 5 10]
def c318r4 : List GI := [xm 11 1,
 xm 12 0,
 xm 13 5,
 xp 14 (.iaddr (xt 12) (xt 13) 4),
 xp 15 (.load (xt 14) 4 true),
 xo (.call (some 16) (xt 11) [(xt 15)])]
def c318r5 : List GI := [xm 17 5,
 xm 4 17]
def c318r6 : List GI := [xb 18 .add (xt 8) (xi 1),
 xm 8 18]
def c318l0 : AC := (.seq (.reg c318r2 [0, 1, 7, 8, 9]) (.seq (.cond (xt 9) .skip (.exit 0)) (.seq (.block 1 (.seq (.reg c318r3 [0, 1, 5, 7, 8]) (.seq (.reg c318r4 [0, 1, 5, 7, 8, 16]) (.cond (xt 16) (.seq (.reg c318r5 [4]) .ret) .skip)))) (.reg c318r6 [0, 1, 7, 8]))))
def c318r7 : List GI := [xo (.mv 4 (.c (.v (.int .i64 (-1)))))]
def c318 : AC := (.seq (.reg c318r0 [0, 1]) (.seq (.seq (.reg c318r1 [0, 1, 7, 8]) (.block 0 (.loop c318l0))) (.seq (.reg c318r7 [4]) .ret)))
def c318R : List AR := [.t 4]
theorem k318 : chkF Tryz.prog GLx 318 2 c318 c318R = true := by kernel_rfl
end Go.Va

namespace Go.Va
open Go.Proofs
def c321r0 : List GI := [xo (.mv 2 (.c (.v (.bool false))))]
def c321r1 : List GI := [xm 3 0,
 xm 4 0,
 xb 5 .neq (xt 3) (xt 4),
 xm 2 5]
def c321 : AC := (.seq (.reg c321r0 [0]) (.seq (.reg c321r1 [2]) .ret))
def c321R : List AR := [.t 2]
theorem k321 : chkF Tryz.prog GLx 321 1 c321 c321R = true := by kernel_rfl
def c322r0 : List GI := [xo (.box 1 (xt 0)),
 xo (.mv 2 (.c (.v (.bool false))))]
def c322r1 : List GI := [xa 3 1 0 1,
 xl 4 3 1,
 xb 5 .neq (xt 4) (xi 2),
 xm 6 5,
 xg 6 true (.p 7 (.faddr (xt 1) 2 1)),
 xg 6 true (.p 8 (.load (xt 7) 1 false)),
 xg 6 true (.p 9 (.alen (xt 8))),
 xg 6 true (.p 10 (.bin .gtr (xt 9) (xi 0))),
 xp 11 (.pick (xt 6) (xt 10) (.c (.v (.bool false)))),
 xm 12 11,
 xg 12 false (.p 13 (.faddr (xt 1) 0 1)),
 xg 12 false (.p 14 (.load (xt 13) 1 false)),
 xg 12 false (.p 15 (.bin .neq (xt 14) (xi 2))),
 xg 12 false (.mv 16 (xt 15)),
 xg 16 true (.p 17 (.faddr (xt 1) 0 1)),
 xg 16 true (.p 18 (.load (xt 17) 1 false)),
 xg 16 true (.p 19 (.bin .neq (xt 18) (xi 1))),
 xg 12 false (.p 20 (.pick (xt 16) (xt 19) (.c (.v (.bool false))))),
 xg 12 false (.mv 21 (xt 20)),
 xg 21 true (.p 22 (.faddr (xt 1) 1 1)),
 xg 21 true (.p 23 (.load (xt 22) 1 false)),
 xg 21 true (.p 24 (.bin .neq (xt 23) (xi 0))),
 xg 12 false (.p 25 (.pick (xt 21) (xt 24) (.c (.v (.bool false))))),
 xp 26 (.pick (xt 12) (.c (.v (.bool true))) (xt 25))]
def c322r2 : List GI := [xo (.mv 2 (.c (.v (.bool false))))]
def c322r3 : List GI := [xa 27 1 0 1,
 xl 28 27 1]
def c322r4 : List GI := [xb 30 .eql (xt 28) (xi 0),
 xm 29 30]
def c322r5 : List GI := [xa 31 1 3 1,
 xl 32 31 1,
 xp 33 (.alen (xt 32)),
 xb 34 .eql (xt 33) (xi 0),
 xm 2 34]
def c322r6 : List GI := [xb 36 .eql (xt 28) (xi 1),
 xm 35 36]
def c322r7 : List GI := [xa 37 1 3 1,
 xl 38 37 1,
 xp 39 (.alen (xt 38)),
 xb 40 .eql (xt 39) (xi 0),
 xm 41 40,
 xg 41 true (.p 42 (.faddr (xt 1) 1 1)),
 xg 41 true (.p 43 (.load (xt 42) 1 false)),
 xg 41 true (.p 44 (.bin .geq (xt 43) (xi 0))),
 xp 45 (.pick (xt 41) (xt 44) (.c (.v (.bool false)))),
 xm 46 45,
 xg 46 true (.p 47 (.faddr (xt 1) 1 1)),
 xg 46 true (.p 48 (.load (xt 47) 1 false)),
 xg 46 true (.p 49 (.bin .lss (xt 48) (xi 64))),
 xp 50 (.pick (xt 46) (xt 49) (.c (.v (.bool false)))),
 xm 2 50]
def c322r8 : List GI := [xb 52 .eql (xt 28) (xi 2),
 xm 51 52]
def c322r9 : List GI := [xa 53 1 3 1,
 xl 54 53 1,
 xp 55 (.alen (xt 54)),
 xb 56 .eql (xt 55) (xi 0),
 xm 57 56,
 xg 57 true (.p 58 (.faddr (xt 1) 1 1)),
 xg 57 true (.p 59 (.load (xt 58) 1 false)),
 xg 57 true (.p 60 (.bin .geq (xt 59) (xi 0))),
 xp 61 (.pick (xt 57) (xt 60) (.c (.v (.bool false)))),
 xm 62 61,
 xg 62 true (.p 63 (.faddr (xt 1) 1 1)),
 xg 62 true (.p 64 (.load (xt 63) 1 false)),
 xg 62 true (.p 65 (.bin .lss (xt 64) (xi 32))),
 xp 66 (.pick (xt 62) (xt 65) (.c (.v (.bool false)))),
 xm 67 66,
 xg 67 true (.p 68 (.faddr (xt 1) 2 1)),
 xg 67 true (.p 69 (.load (xt 68) 1 false)),
 xg 67 true (.call (some 70) (xf 338) [(xt 69)]),
 xg 67 true (.p 71 (.bin .eql (xt 70) (xi 0))),
 xp 72 (.pick (xt 67) (xt 71) (.c (.v (.bool false)))),
 xm 2 72]
def c322r10 : List GI := [xb 74 .eql (xt 28) (xi 3),
 xm 73 74]
def c322r11 : List GI := [xb 75 .eql (xt 28) (xi 6),
 xm 73 75]
def c322r12 : List GI := [xa 76 1 3 1,
 xl 77 76 1,
 xp 78 (.alen (xt 77)),
 xb 79 .eql (xt 78) (xi 1),
 xm 2 79]
def c322r13 : List GI := [xa 80 1 0 1,
 xl 81 80 1,
 xb 82 .eql (xt 81) (xi 4),
 xm 83 82,
 xg 83 false (.p 84 (.faddr (xt 1) 0 1)),
 xg 83 false (.p 85 (.load (xt 84) 1 false)),
 xg 83 false (.p 86 (.bin .eql (xt 85) (xi 5))),
 xp 87 (.pick (xt 83) (.c (.v (.bool true))) (xt 86)),
 xm 2 87]
def c322 : AC := (.seq (.reg c322r0 [1]) (.seq (.seq (.reg c322r1 [1, 26]) (.cond (xt 26) (.seq (.reg c322r2 [2]) .ret) .skip)) (.seq (.seq (.reg c322r3 [1, 28]) (.block 0 (.seq (.reg c322r4 [1, 28, 29]) (.cond (xt 29) (.seq (.reg c322r5 [2]) .ret) (.seq (.reg c322r6 [1, 28, 35]) (.cond (xt 35) (.seq (.reg c322r7 [2]) .ret) (.seq (.reg c322r8 [1, 28, 51]) (.cond (xt 51) (.seq (.reg c322r9 [2]) .ret) (.seq (.seq (.reg c322r10 [1, 28, 73]) (.cond (xt 73) .skip (.reg c322r11 [1, 73]))) (.cond (xt 73) (.seq (.reg c322r12 [2]) .ret) .skip)))))))))) (.seq (.reg c322r13 [2]) .ret))))
def c322R : List AR := [.t 2]
theorem k322 : chkF Tryz.prog GLx 322 1 c322 c322R = true := by kernel_rfl
def c323r0 : List GI := [xo (.mv 4 (xi 0))]
def c323r1 : List GI := [xm 6 0,
 xp 7 (.alen (xt 6)),
 xo (.mv 8 (xi 0))]
def c323r2 : List GI := [xb 9 .lss (xt 8) (xt 7)]
def c323r3 : List GI := [xm 10 8,
 xm 5 10]
def c323r4 : List GI := [xm 11 1,
 xm 12 0,
 xm 13 5,
 xp 14 (.iaddr (xt 12) (xt 13) 4),
 xp 15 (.load (xt 14) 4 true),
 xo (.call (some 16) (xt 11) [(xt 15)])]
def c323r5 : List GI := [xm 17 5,
 xm 4 17]
def c323r6 : List GI := [xb 18 .add (xt 8) (xi 1),
 xm 8 18]
def c323l0 : AC := (.seq (.reg c323r2 [0, 1, 7, 8, 9]) (.seq (.cond (xt 9) .skip (.exit 0)) (.seq (.block 1 (.seq (.reg c323r3 [0, 1, 5, 7, 8]) (.seq (.reg c323r4 [0, 1, 5, 7, 8, 16]) (.cond (xt 16) (.seq (.reg c323r5 [4]) .ret) .skip)))) (.reg c323r6 [0, 1, 7, 8]))))
def c323r7 : List GI := [xo (.mv 4 (.c (.v (.int .i64 (-1)))))]
def c323 : AC := (.seq (.reg c323r0 [0, 1]) (.seq (.seq (.reg c323r1 [0, 1, 7, 8]) (.block 0 (.loop c323l0))) (.seq (.reg c323r7 [4]) .ret)))
def c323R : List AR := [.t 4]
theorem k323 : chkF Tryz.prog GLx 323 2 c323 c323R = true := by kernel_rfl
def c324r0 : List GI := [xo (.mv 3 (xi 0))]
def c324r1 : List GI := [xm 6 3,
 xl 7 1 1,
 xp 8 (.alen (xt 7)),
 xb 9 .lss (xt 6) (xt 8)]
def c324r3 : List GI := [xo (.mv 4 (xj 0))]
def c324r4 : List GI := [xm 12 3,
 xm 5 12]
def c324r5 : List GI := [xm 13 5,
 xm 14 3,
 xb 15 .add (xt 14) (xi 8),
 xl 16 1 1,
 xp 17 (.alen (xt 16)),
 xp 18 (.minmax false (xt 15) (xt 17)),
 xb 19 .lss (xt 13) (xt 18)]
def c324r7 : List GI := [xm 22 4,
 xl 23 1 1,
 xm 24 5,
 xp 25 (.iaddr (xt 23) (xt 24) 1),
 xl 26 25 1,
 xp 27 (.cint .u64 (xt 26)),
 xm 28 5,
 xm 29 3,
 xb 30 .sub (xt 28) (xt 29),
 xb 31 .mul (xi 8) (xt 30),
 xb 32 .shl (xt 27) (xt 31),
 xb 33 .or (xt 22) (xt 32),
 xm 4 33]
def c324r6 : List GI := [xm 20 5,
 xb 21 .add (xt 20) (xi 1),
 xm 5 21]
def c324l1 : AC := (.seq (.seq (.reg c324r5 [0, 1, 3, 4, 5, 19]) (.cond (xt 19) .skip (.exit 2))) (.seq (.block 3 (.reg c324r7 [0, 1, 3, 4, 5])) (.reg c324r6 [0, 1, 3, 4, 5])))
def c324r8 : List GI := [xm 34 0,
 xm 35 4,
 xo (.call (some 36) (xt 34) [(xt 35)]),
 xp 37 (.not (xt 36))]
def c324r2 : List GI := [xm 10 3,
 xb 11 .add (xt 10) (xi 8),
 xm 3 11]
def c324l0 : AC := (.seq (.seq (.reg c324r1 [0, 1, 3, 9]) (.cond (xt 9) .skip (.exit 0))) (.seq (.block 1 (.seq (.reg c324r3 [0, 1, 3, 4]) (.seq (.seq (.reg c324r4 [0, 1, 3, 4, 5]) (.block 2 (.loop c324l1))) (.seq (.reg c324r8 [0, 1, 3, 37]) (.cond (xt 37) .ret .skip))))) (.reg c324r2 [0, 1, 3])))
def c324 : AC := (.seq (.reg c324r0 [0, 1, 3]) (.block 0 (.loop c324l0)))
def c324R : List AR := []
theorem k324 : chkF Tryz.prog GLx 324 2 c324 c324R = true := by kernel_rfl
def c325r0 : List GI := [xo (.box 1 (xt 0)),
 xo (.mv 2 (.c (.own 5 1 [])))]
def c325r1 : List GI := [xa 3 1 0 2,
 xa 4 3 0 1,
 xl 5 4 1,
 xa 6 1 0 2,
 xa 7 6 1 1,
 xl 8 7 1,
 xa 9 1 2 2,
 xa 10 9 0 1,
 xl 11 10 1,
 xa 12 1 2 2,
 xa 13 12 1 1,
 xl 14 13 1,
 xa 15 1 4 1,
 xl 16 15 1,
 xc 17 339 [(xt 16)],
 xa 18 1 5 1,
 xl 19 18 1,
 xc 20 339 [(xt 19)],
 xa 21 1 6 1,
 xl 22 21 1,
 xc 23 339 [(xt 22)],
 xa 24 1 7 1,
 xl 25 24 1,
 xc 26 339 [(xt 25)],
 xo (.bsl 27 3 1 [(xt 5), (xt 8), (xt 11), (xt 14), (xt 17), (xt 20), (xt 23), (xt 26)]),
 xc 28 107 [(xt 27)],
 xn 2 28]
def c325 : AC := (.seq (.reg c325r0 [1]) (.seq (.regD c325r1 [2] [[], [0], [0, 1], [], [3], [3, 4], [], [6], [6, 7], [], [9], [9, 10], [], [12], [12, 13], [], [15], [12, 13, 14, 15, 16], [], [18], [12, 13, 14, 15, 16, 17, 18, 19], [], [21], [12, 13, 14, 15, 16, 17, 18, 19, 20, 21, 22], [0, 1, 2, 3, 4, 5, 6, 7, 8, 9, 10, 11, 12, 13, 14, 15, 16, 17, 18, 19, 20, 21, 22, 23], [0, 1, 2, 3, 4, 5, 6, 7, 8, 9, 10, 11, 12, 13, 14, 15, 16, 17, 18, 19, 20, 21, 22, 23, 24], [0, 1, 2, 3, 4, 5, 6, 7, 8, 9, 10, 11, 12, 13, 14, 15, 16, 17, 18, 19, 20, 21, 22, 23, 24, 25]]) .ret))
def c325R : List AR := [.t 2]
theorem k325 : chkF Tryz.prog GLx 325 1 c325 c325R = true := by kernel_rfl
def c327r0 : List GI := [xo (.mv 8 (.c (.v (.bool true))))]
def c327r1 : List GI := [xo (.mv 9 (.c (.v (.bool true))))]
def c327r2 : List GI := [xm 19 2,
 xm 20 1,
 xb 21 .sub (xt 19) (xt 20),
 xm 10 21]
def c327r3 : List GI := [xm 22 10,
 xb 23 .leq (xt 22) (xi 12)]
def c327r4 : List GI := [xn 24 0,
 xm 25 1,
 xm 26 2,
 xc 27 340 [(xt 24), (xt 25), (xt 26)]]
def c327r5 : List GI := [xm 28 3,
 xb 29 .eql (xt 28) (xi 0)]
def c327r6 : List GI := [xn 30 0,
 xm 31 1,
 xm 32 2,
 xc 33 341 [(xt 30), (xt 31), (xt 32)]]
def c327r7 : List GI := [xm 34 8,
 xp 35 (.not (xt 34))]
def c327r8 : List GI := [xm 36 0,
 xm 37 1,
 xm 38 2,
 xc 39 342 [(xt 36), (xt 37), (xt 38)]]
def c327r9 : List GI := [xm 40 3,
 xb 41 .sub (xt 40) (xi 1),
 xm 3 41]
def c327r10 : List GI := [xm 43 0,
 xm 44 1,
 xm 45 2,
 xc 46 343 [(xt 43), (xt 44), (xt 45)],
 xn 42 46,
 xe 47 42 0,
 xe 48 42 1,
 xm 11 47,
 xm 12 48]
def c327r11 : List GI := [xm 49 12,
 xb 50 .eql (xt 49) (xi 2)]
def c327r12 : List GI := [xm 51 0,
 xm 52 1,
 xm 53 2,
 xc 54 344 [(xt 51), (xt 52), (xt 53)]]
def c327r13 : List GI := [xm 55 2,
 xb 56 .sub (xt 55) (xi 1),
 xm 57 11,
 xm 58 1,
 xb 59 .sub (xt 57) (xt 58),
 xb 60 .sub (xt 56) (xt 59),
 xm 11 60]
def c327r14 : List GI := [xo (.mv 12 (xi 1))]
def c327r15 : List GI := [xm 61 8,
 xm 62 61,
 xg 62 true (.mv 63 (xt 9)),
 xp 64 (.pick (xt 62) (xt 63) (.c (.v (.bool false)))),
 xm 65 64,
 xg 65 true (.mv 66 (xt 12)),
 xg 65 true (.p 67 (.bin .eql (xt 66) (xi 1))),
 xp 68 (.pick (xt 65) (xt 67) (.c (.v (.bool false))))]
def c327r16 : List GI := [xm 69 0,
 xm 70 1,
 xm 71 2,
 xc 72 345 [(xt 69), (xt 70), (xt 71)]]
def c327r17 : List GI := [xm 73 1,
 xb 74 .gtr (xt 73) (xi 0),
 xm 75 74,
 xg 75 true (.mv 76 (xt 0)),
 xg 75 true (.mv 77 (xt 1)),
 xg 75 true (.p 78 (.bin .sub (xt 77) (xi 1))),
 xg 75 true (.p 79 (.iaddr (xt 76) (xt 78) 1)),
 xg 75 true (.p 80 (.load (xt 79) 1 false)),
 xg 75 true (.mv 81 (xt 0)),
 xg 75 true (.mv 82 (xt 11)),
 xg 75 true (.p 83 (.iaddr (xt 81) (xt 82) 1)),
 xg 75 true (.p 84 (.load (xt 83) 1 false)),
 xg 75 true (.call (some 85) (xf 284) [(xt 80), (xt 84)]),
 xg 75 true (.p 86 (.not (xt 85))),
 xp 87 (.pick (xt 75) (xt 86) (.c (.v (.bool false))))]
def c327r18 : List GI := [xm 88 0,
 xm 89 1,
 xm 90 2,
 xm 91 11,
 xc 92 346 [(xt 88), (xt 89), (xt 90), (xt 91)],
 xm 13 92]
def c327r19 : List GI := [xm 93 13,
 xm 1 93]
def c327r20 : List GI := [xm 95 0,
 xm 96 1,
 xm 97 2,
 xm 98 11,
 xc 99 347 [(xt 95), (xt 96), (xt 97), (xt 98)],
 xn 94 99,
 xe 100 94 0,
 xe 101 94 1,
 xm 14 100,
 xm 15 101]
def c327r21 : List GI := [xm 102 15,
 xm 9 102]
def c327r22 : List GI := [xm 103 14,
 xm 104 1,
 xb 105 .sub (xt 103) (xt 104),
 xm 106 2,
 xm 107 14,
 xb 108 .sub (xt 106) (xt 107),
 xm 16 105,
 xm 17 108]
def c327r23 : List GI := [xm 109 10,
 xb 110 .quo (xt 109) (xi 8),
 xm 18 110]
def c327r24 : List GI := [xm 111 16,
 xm 112 17,
 xb 113 .lss (xt 111) (xt 112)]
def c327r25 : List GI := [xm 114 16,
 xm 115 18,
 xb 116 .geq (xt 114) (xt 115),
 xm 8 116]
def c327r26 : List GI := [xm 117 0,
 xm 118 1,
 xm 119 14,
 xm 120 3,
 xc 121 327 [(xt 117), (xt 118), (xt 119), (xt 120)]]
def c327r27 : List GI := [xm 122 14,
 xb 123 .add (xt 122) (xi 1),
 xm 1 123]
def c327r28 : List GI := [xm 124 17,
 xm 125 18,
 xb 126 .geq (xt 124) (xt 125),
 xm 8 126]
def c327r29 : List GI := [xm 127 0,
 xm 128 14,
 xb 129 .add (xt 128) (xi 1),
 xm 130 2,
 xm 131 3,
 xc 132 327 [(xt 127), (xt 129), (xt 130), (xt 131)]]
def c327r30 : List GI := [xm 133 14,
 xm 2 133]
def c327l0 : AC := (.block 1 (.seq (.reg c327r2 [0, 1, 2, 3, 8, 9, 10]) (.seq (.seq (.reg c327r3 [0, 1, 2, 3, 8, 9, 10, 23]) (.cond (xt 23) (.seq (.reg c327r4 []) .ret) .skip)) (.seq (.seq (.reg c327r5 [0, 1, 2, 3, 8, 9, 10, 29]) (.cond (xt 29) (.seq (.reg c327r6 []) .ret) .skip)) (.seq (.seq (.reg c327r7 [0, 1, 2, 3, 8, 9, 10, 35]) (.cond (xt 35) (.seq (.reg c327r8 [0, 1, 2, 3, 8, 9, 10]) (.reg c327r9 [0, 1, 2, 3, 8, 9, 10])) .skip)) (.seq (.reg c327r10 [0, 1, 2, 3, 8, 9, 10, 11, 12]) (.seq (.seq (.reg c327r11 [0, 1, 2, 3, 8, 9, 10, 11, 12, 50]) (.cond (xt 50) (.seq (.reg c327r12 [0, 1, 2, 3, 8, 9, 10, 11]) (.seq (.reg c327r13 [0, 1, 2, 3, 8, 9, 10, 11]) (.reg c327r14 [0, 1, 2, 3, 8, 9, 10, 11, 12]))) .skip)) (.seq (.seq (.reg c327r15 [0, 1, 2, 3, 8, 9, 10, 11, 68]) (.cond (xt 68) (.seq (.reg c327r16 [0, 1, 2, 3, 8, 9, 10, 11, 72]) (.cond (xt 72) .ret .skip)) .skip)) (.seq (.seq (.regD c327r17 [0, 1, 2, 3, 8, 9, 10, 11, 87] [[], [0], [0, 1], [0, 1, 2], [0, 1, 2], [0, 1, 2, 4], [0, 1, 2, 3, 4, 5], [0, 1, 2, 3, 4, 5, 6], [0, 1, 2], [0, 1, 2], [0, 1, 2, 8, 9], [0, 1, 2, 8, 9, 10], [0, 1, 2, 3, 4, 5, 6, 7, 8, 9, 10, 11], [0, 1, 2, 3, 4, 5, 6, 7, 8, 9, 10, 11, 12], [0, 1, 2, 3, 4, 5, 6, 7, 8, 9, 10, 11, 12, 13]]) (.cond (xt 87) (.seq (.reg c327r18 [0, 2, 3, 8, 9, 13]) (.seq (.reg c327r19 [0, 1, 2, 3, 8, 9]) (.exit 1))) .skip)) (.seq (.reg c327r20 [0, 1, 2, 3, 10, 14, 15]) (.seq (.reg c327r21 [0, 1, 2, 3, 9, 10, 14]) (.seq (.reg c327r22 [0, 1, 2, 3, 9, 10, 14, 16, 17]) (.seq (.reg c327r23 [0, 1, 2, 3, 9, 14, 16, 17, 18]) (.seq (.reg c327r24 [0, 1, 2, 3, 9, 14, 16, 17, 18, 113]) (.cond (xt 113) (.seq (.reg c327r25 [0, 1, 2, 3, 8, 9, 14]) (.seq (.reg c327r26 [0, 2, 3, 8, 9, 14]) (.reg c327r27 [0, 1, 2, 3, 8, 9]))) (.seq (.reg c327r28 [0, 1, 2, 3, 8, 9, 14]) (.seq (.reg c327r29 [0, 1, 3, 8, 9, 14]) (.reg c327r30 [0, 1, 2, 3, 8, 9]))))))))))))))))))
def c327 : AC := (.seq (.reg c327r0 [0, 1, 2, 3, 8]) (.seq (.reg c327r1 [0, 1, 2, 3, 8, 9]) (.block 0 (.loop c327l0))))
def c327R : List AR := []
theorem k327 : chkF Tryz.prog GLx 327 4 c327 c327R = true := by kernel_rfl
def c328r0 : List GI := [xo (.mv 2 (xi 0))]
def c328r1 : List GI := [xm 3 0,
 xp 4 (.cint .u32 (xt 3)),
 xc 5 348 [(xt 4)],
 xm 2 5]
def c328r2 : List GI := [xm 6 0,
 xc 7 349 [(xt 6)],
 xm 2 7]
def c328 : AC := (.seq (.reg c328r0 [0]) (.seq (.cond (.c (.v (.bool false))) (.seq (.reg c328r1 [2]) .ret) .skip) (.seq (.reg c328r2 [2]) .ret)))
def c328R : List AR := [.t 2]
theorem k328 : chkF Tryz.prog GLx 328 1 c328 c328R = true := by kernel_rfl
def c329r0 : List GI := [xo (.alloc 6 [.v (.int .i64 0), .v (.int .i64 0)]),
 xo (.mv 7 (xi 0))]
def c329r1 : List GI := [xm 10 1,
 xm 11 2,
 xc 12 350 [(xt 10), (xt 11)],
 xm 8 12]
def c329r2 : List GI := [xm 13 1,
 xm 14 8,
 xb 15 .quo (xt 13) (xt 14),
 xm 16 2,
 xm 17 8,
 xb 18 .quo (xt 16) (xt 17),
 xm 1 15,
 xm 2 18]
def c329r3 : List GI := [xm 19 1,
 xb 20 .gtr (xt 19) (xj 1099511627776),
 xm 21 20,
 xg 21 false (.mv 22 (xt 2)),
 xg 21 false (.p 23 (.bin .gtr (xt 22) (xj 1048576))),
 xp 24 (.pick (xt 21) (.c (.v (.bool true))) (xt 23))]
def c329r4 : List GI := [xp 25 (.build [.v (.int .i64 0), .v (.int .i64 0)] []),
 xo (.store (xt 6) (xt 25) 2),
 xo (.mv 7 (xi 5))]
def c329r5 : List GI := [xm 26 1,
 xp 27 (.cint .i64 (xt 26)),
 xm 28 2,
 xp 29 (.cint .i64 (xt 28)),
 xp 30 (.build [.v (.int .i64 0), .v (.int .i64 0)] [(0, 1, (xt 27)), (1, 1, (xt 29))]),
 xo (.alloc 9 [.v (.int .i64 0), .v (.int .i64 0)]),
 xo (.store (xt 9) (xt 30) 2)]
def c329r6 : List GI := [xm 31 0]
def c329r7 : List GI := [xa 32 9 0 1,
 xl 33 32 1,
 xp 34 (.neg (xt 33)),
 xa 35 9 0 1,
 xo (.store (xt 35) (xt 34) 1)]
def c329r8 : List GI := [xp 36 (.load (xt 9) 2 true),
 xo (.store (xt 6) (xt 36) 2),
 xo (.mv 7 (xi 0))]
def c329 : AC := (.seq (.reg c329r0 [0, 1, 2, 6]) (.seq (.reg c329r1 [0, 1, 2, 6, 8]) (.seq (.regD c329r2 [0, 1, 2, 6] [[], [], [0, 1], [], [], [3, 4], [0, 1, 2], [0, 1, 2, 3, 4, 5, 6]]) (.seq (.seq (.reg c329r3 [0, 1, 2, 6, 24]) (.cond (xt 24) (.seq (.reg c329r4 [6, 7]) .ret) .skip)) (.seq (.reg c329r5 [0, 6, 9]) (.seq (.seq (.reg c329r6 [6, 9, 31]) (.cond (xt 31) (.reg c329r7 [6, 9]) .skip)) (.seq (.reg c329r8 [6, 7]) .ret)))))))
def c329R : List AR := [.c 6 2 true, .t 7]
theorem k329 : chkF Tryz.prog GLx 329 3 c329 c329R = true := by kernel_rfl
def c330r0 : List GI := [xo (.mv 2 (xj 0))]
def c330r1 : List GI := [xm 3 0,
 xb 4 .lss (xt 3) (xi 0)]
def c330r2 : List GI := [xm 5 0,
 xp 6 (.cint .u64 (xt 5)),
 xp 7 (.neg (xt 6)),
 xm 2 7]
def c330r3 : List GI := [xm 8 0,
 xp 9 (.cint .u64 (xt 8)),
 xm 2 9]
def c330 : AC := (.seq (.reg c330r0 [0]) (.seq (.seq (.reg c330r1 [0, 4]) (.cond (xt 4) (.seq (.reg c330r2 [2]) .ret) .skip)) (.seq (.reg c330r3 [2]) .ret)))
def c330R : List AR := [.t 2]
theorem k330 : chkF Tryz.prog GLx 330 1 c330 c330R = true := by kernel_rfl
def c332r0 : List GI := [xo (.box 1 (xt 0)),
 xo (.mv 2 (.c (.v (.bool false))))]
def c332r1 : List GI := [xa 5 1 6 1,
 xl 6 5 1,
 xm 7 6,
 xg 7 true (.p 8 (.faddr (xt 1) 0 2)),
 xg 7 true (.p 9 (.load (xt 8) 2 true)),
 xg 7 true (.p 10 (.build [.v (.int .i64 0), .v (.int .i64 0)] [])),
 xg 7 true (.p 11 (.eqA true [0, 0] (xt 9) (xt 10))),
 xg 7 true (.mv 12 (xt 11)),
 xg 12 false (.p 13 (.faddr (xt 1) 4 1)),
 xg 12 false (.p 14 (.load (xt 13) 1 false)),
 xg 7 true (.p 15 (.pick (xt 12) (.c (.v (.bool true))) (xt 14))),
 xp 16 (.pick (xt 7) (xt 15) (.c (.v (.bool false)))),
 xm 17 16,
 xg 17 false (.p 18 (.faddr (xt 1) 7 1)),
 xg 17 false (.p 19 (.load (xt 18) 1 false)),
 xg 17 false (.mv 20 (xt 19)),
 xg 20 true (.p 21 (.faddr (xt 1) 2 2)),
 xg 20 true (.p 22 (.load (xt 21) 2 true)),
 xg 20 true (.p 23 (.build [.v (.int .i64 0), .v (.int .i64 0)] [])),
 xg 20 true (.p 24 (.eqA true [0, 0] (xt 22) (xt 23))),
 xg 20 true (.mv 25 (xt 24)),
 xg 25 false (.p 26 (.faddr (xt 1) 5 1)),
 xg 25 false (.p 27 (.load (xt 26) 1 false)),
 xg 20 true (.p 28 (.pick (xt 25) (.c (.v (.bool true))) (xt 27))),
 xg 17 false (.p 29 (.pick (xt 20) (xt 28) (.c (.v (.bool false))))),
 xp 30 (.pick (xt 17) (.c (.v (.bool true))) (xt 29))]
def c332r2 : List GI := [xo (.mv 2 (.c (.v (.bool false))))]
def c332r3 : List GI := [xa 31 1 0 2,
 xp 32 (.load (xt 31) 2 true),
 xc 33 351 [(xt 32)],
 xm 3 33]
def c332r4 : List GI := [xa 34 1 2 2,
 xp 35 (.load (xt 34) 2 true),
 xc 36 351 [(xt 35)],
 xm 4 36]
def c332r5 : List GI := [xa 37 1 6 1,
 xl 38 37 1,
 xp 39 (.not (xt 38)),
 xm 40 39,
 xg 40 true (.mv 41 (xt 3)),
 xg 40 true (.p 42 (.not (xt 41))),
 xp 43 (.pick (xt 40) (xt 42) (.c (.v (.bool false)))),
 xm 44 43,
 xg 44 false (.p 45 (.faddr (xt 1) 7 1)),
 xg 44 false (.p 46 (.load (xt 45) 1 false)),
 xg 44 false (.p 47 (.not (xt 46))),
 xg 44 false (.mv 48 (xt 47)),
 xg 48 true (.mv 49 (xt 4)),
 xg 48 true (.p 50 (.not (xt 49))),
 xg 44 false (.p 51 (.pick (xt 48) (xt 50) (.c (.v (.bool false))))),
 xp 52 (.pick (xt 44) (.c (.v (.bool true))) (xt 51))]
def c332r6 : List GI := [xo (.mv 2 (.c (.v (.bool false))))]
def c332r7 : List GI := [xa 53 1 6 1,
 xl 54 53 1,
 xm 55 54,
 xg 55 false (.p 56 (.faddr (xt 1) 7 1)),
 xg 55 false (.p 57 (.load (xt 56) 1 false)),
 xp 58 (.pick (xt 55) (.c (.v (.bool true))) (xt 57))]
def c332r8 : List GI := [xo (.mv 2 (.c (.v (.bool true))))]
def c332r9 : List GI := [xa 59 1 0 2,
 xp 60 (.load (xt 59) 2 true),
 xa 61 1 2 2,
 xp 62 (.load (xt 61) 2 true),
 xp 63 (.eqA false [0, 0] (xt 60) (xt 62))]
def c332r10 : List GI := [xa 64 1 4 1,
 xl 65 64 1,
 xp 66 (.not (xt 65)),
 xm 67 66,
 xg 67 true (.p 68 (.faddr (xt 1) 5 1)),
 xg 67 true (.p 69 (.load (xt 68) 1 false)),
 xg 67 true (.p 70 (.not (xt 69))),
 xp 71 (.pick (xt 67) (xt 70) (.c (.v (.bool false)))),
 xm 2 71]
def c332r11 : List GI := [xa 72 1 0 2,
 xp 73 (.load (xt 72) 2 true),
 xa 74 1 2 2,
 xp 75 (.load (xt 74) 2 true),
 xc 76 352 [(xt 73), (xt 75)],
 xm 2 76]
def c332 : AC := (.seq (.reg c332r0 [1]) (.seq (.seq (.reg c332r1 [1, 30]) (.cond (xt 30) (.seq (.reg c332r2 [2]) .ret) .skip)) (.seq (.reg c332r3 [1, 3]) (.seq (.reg c332r4 [1, 3, 4]) (.seq (.seq (.reg c332r5 [1, 52]) (.cond (xt 52) (.seq (.reg c332r6 [2]) .ret) .skip)) (.seq (.seq (.reg c332r7 [1, 58]) (.cond (xt 58) (.seq (.reg c332r8 [2]) .ret) .skip)) (.seq (.seq (.reg c332r9 [1, 63]) (.cond (xt 63) (.seq (.reg c332r10 [2]) .ret) .skip)) (.seq (.reg c332r11 [2]) .ret))))))))
def c332R : List AR := [.t 2]
theorem k332 : chkF Tryz.prog GLx 332 1 c332 c332R = true := by kernel_rfl
def c338r0 : List GI := [xo (.mv 2 (xi 0))]
def c338r1 : List GI := [xo (.mv 3 (xi 0))]
def c338r2 : List GI := [xm 5 3,
 xm 6 0,
 xp 7 (.alen (xt 6)),
 xb 8 .lss (xt 5) (xt 7)]
def c338r4 : List GI := [xm 11 0,
 xm 12 3,
 xp 13 (.iaddr (xt 11) (xt 12) 8),
 xp 14 (.load (xt 13) 8 true),
 xc 15 332 [(xt 14)],
 xm 4 15]
def c338r5 : List GI := [xm 16 4,
 xp 17 (.not (xt 16)),
 xm 18 17,
 xg 18 false (.mv 19 (xt 3)),
 xg 18 false (.p 20 (.bin .gtr (xt 19) (xi 0))),
 xg 18 false (.mv 21 (xt 20)),
 xg 21 true (.mv 22 (xt 0)),
 xg 21 true (.mv 23 (xt 3)),
 xg 21 true (.p 24 (.bin .sub (xt 23) (xi 1))),
 xg 21 true (.p 25 (.iaddr (xt 22) (xt 24) 8)),
 xg 21 true (.p 26 (.load (xt 25) 8 true)),
 xg 21 true (.mv 27 (xt 0)),
 xg 21 true (.mv 28 (xt 3)),
 xg 21 true (.p 29 (.iaddr (xt 27) (xt 28) 8)),
 xg 21 true (.p 30 (.load (xt 29) 8 true)),
 xg 21 true (.call (some 31) (xf 353) [(xt 26), (xt 30)]),
 xg 21 true (.p 32 (.not (xt 31))),
 xg 18 false (.p 33 (.pick (xt 21) (xt 32) (.c (.v (.bool false))))),
 xp 34 (.pick (xt 18) (.c (.v (.bool true))) (xt 33))]
def c338r6 : List GI := [xo (.mv 2 (xi 1))]
def c338r3 : List GI := [xm 9 3,
 xb 10 .add (xt 9) (xi 1),
 xm 3 10]
def c338l0 : AC := (.seq (.seq (.reg c338r2 [0, 3, 8]) (.cond (xt 8) .skip (.exit 0))) (.seq (.block 1 (.seq (.reg c338r4 [0, 3, 4]) (.seq (.regD c338r5 [0, 3, 34] [[], [0], [0, 1], [0, 1, 2], [0, 1, 2, 3], [0, 1, 2, 3, 4], [0, 1, 2, 3, 4, 5], [0, 1, 2, 3, 4, 5], [0, 1, 2, 3, 4, 5, 7], [0, 1, 2, 3, 4, 5, 6, 7, 8], [0, 1, 2, 3, 4, 5, 6, 7, 8, 9], [0, 1, 2, 3, 4, 5], [0, 1, 2, 3, 4, 5], [0, 1, 2, 3, 4, 5, 11, 12], [0, 1, 2, 3, 4, 5, 11, 12, 13], [0, 1, 2, 3, 4, 5, 6, 7, 8, 9, 10, 11, 12, 13, 14], [0, 1, 2, 3, 4, 5, 6, 7, 8, 9, 10, 11, 12, 13, 14, 15], [0, 1, 2, 3, 4, 5, 6, 7, 8, 9, 10, 11, 12, 13, 14, 15, 16], [0, 1, 2, 3, 4, 5, 6, 7, 8, 9, 10, 11, 12, 13, 14, 15, 16, 17]]) (.cond (xt 34) (.seq (.reg c338r6 [2]) .ret) .skip)))) (.reg c338r3 [0, 3])))
def c338r7 : List GI := [xn 35 0,
 xp 36 (.alen (xt 35)),
 xb 37 .gtr (xt 36) (xi 32)]
def c338r8 : List GI := [xo (.mv 2 (xi 4))]
def c338r9 : List GI := [xo (.mv 2 (xi 0))]
def c338 : AC := (.seq (.reg c338r0 [0]) (.seq (.seq (.reg c338r1 [0, 3]) (.block 0 (.loop c338l0))) (.seq (.seq (.reg c338r7 [37]) (.cond (xt 37) (.seq (.reg c338r8 [2]) .ret) .skip)) (.seq (.reg c338r9 [2]) .ret))))
def c338R : List AR := [.t 2]
theorem k338 : chkF Tryz.prog GLx 338 1 c338 c338R = true := by kernel_rfl
def c339r0 : List GI := [xo (.mv 2 (xi 0))]
def c339r1 : List GI := [xm 3 0]
def c339r2 : List GI := [xo (.mv 2 (xi 1))]
def c339r3 : List GI := [xo (.mv 2 (xi 0))]
def c339 : AC := (.seq (.reg c339r0 [0]) (.seq (.seq (.reg c339r1 [3]) (.cond (xt 3) (.seq (.reg c339r2 [2]) .ret) .skip)) (.seq (.reg c339r3 [2]) .ret)))
def c339R : List AR := [.t 2]
theorem k339 : chkF Tryz.prog GLx 339 1 c339 c339R = true := by kernel_rfl
def c340r0 : List GI := [xm 8 1,
 xb 9 .add (xt 8) (xi 1),
 xm 6 9]
def c340r1 : List GI := [xm 10 6,
 xm 11 2,
 xb 12 .lss (xt 10) (xt 11)]
def c340r3 : List GI := [xm 15 6,
 xm 7 15]
def c340r4 : List GI := [xm 16 7,
 xm 17 1,
 xb 18 .gtr (xt 16) (xt 17),
 xm 19 18,
 xg 19 true (.mv 20 (xt 0)),
 xg 19 true (.mv 21 (xt 7)),
 xg 19 true (.p 22 (.iaddr (xt 20) (xt 21) 1)),
 xg 19 true (.p 23 (.load (xt 22) 1 false)),
 xg 19 true (.mv 24 (xt 0)),
 xg 19 true (.mv 25 (xt 7)),
 xg 19 true (.p 26 (.bin .sub (xt 25) (xi 1))),
 xg 19 true (.p 27 (.iaddr (xt 24) (xt 26) 1)),
 xg 19 true (.p 28 (.load (xt 27) 1 false)),
 xg 19 true (.call (some 29) (xf 284) [(xt 23), (xt 28)]),
 xp 30 (.pick (xt 19) (xt 29) (.c (.v (.bool false))))]
def c340r6 : List GI := [xm 33 0,
 xm 34 7,
 xm 35 0,
 xm 36 7,
 xb 37 .sub (xt 36) (xi 1),
 xm 38 0,
 xm 39 7,
 xb 40 .sub (xt 39) (xi 1),
 xp 41 (.iaddr (xt 38) (xt 40) 1),
 xl 42 41 1,
 xm 43 0,
 xm 44 7,
 xp 45 (.iaddr (xt 43) (xt 44) 1),
 xl 46 45 1,
 xp 47 (.iaddr (xt 33) (xt 34) 1),
 xo (.store (xt 47) (xt 42) 1),
 xp 48 (.iaddr (xt 35) (xt 37) 1),
 xo (.store (xt 48) (xt 46) 1)]
def c340r5 : List GI := [xm 31 7,
 xb 32 .sub (xt 31) (xi 1),
 xm 7 32]
def c340l1 : AC := (.seq (.seq (.regD c340r4 [0, 1, 2, 6, 7, 30] [[], [], [0, 1], [0, 1, 2], [0, 1, 2, 3], [0, 1, 2, 3], [0, 1, 2, 3, 4, 5], [0, 1, 2, 3, 4, 5, 6], [0, 1, 2, 3], [0, 1, 2, 3], [0, 1, 2, 3, 9], [0, 1, 2, 3, 8, 9, 10], [0, 1, 2, 3, 8, 9, 10, 11], [0, 1, 2, 3, 4, 5, 6, 7, 8, 9, 10, 11, 12], [0, 1, 2, 3, 4, 5, 6, 7, 8, 9, 10, 11, 12, 13]]) (.cond (xt 30) .skip (.exit 2))) (.seq (.block 3 (.regD c340r6 [0, 1, 2, 6, 7] [[], [], [], [], [3], [], [], [6], [5, 6, 7], [5, 6, 7, 8], [], [], [10, 11], [10, 11, 12], [0, 1, 5, 6, 7, 8, 9, 10, 11, 12, 13], [0, 1, 5, 6, 7, 8, 9, 10, 11, 12, 13, 14], [0, 1, 2, 3, 4, 5, 6, 7, 8, 9, 10, 11, 12, 13, 14, 15], [0, 1, 2, 3, 4, 5, 6, 7, 8, 9, 10, 11, 12, 13, 14, 15, 16]])) (.reg c340r5 [0, 1, 2, 6, 7])))
def c340r2 : List GI := [xm 13 6,
 xb 14 .add (xt 13) (xi 1),
 xm 6 14]
def c340l0 : AC := (.seq (.seq (.reg c340r1 [0, 1, 2, 6, 12]) (.cond (xt 12) .skip (.exit 0))) (.seq (.block 1 (.seq (.reg c340r3 [0, 1, 2, 6, 7]) (.block 2 (.loop c340l1)))) (.reg c340r2 [0, 1, 2, 6])))
def c340 : AC := (.seq (.reg c340r0 [0, 1, 2, 6]) (.block 0 (.loop c340l0)))
def c340R : List AR := []
theorem k340 : chkF Tryz.prog GLx 340 3 c340 c340R = true := by kernel_rfl
def c349r0 : List GI := [xo (.mv 2 (xi 0))]
def c349r1 : List GI := [xm 3 0,
 xb 4 .geq (xt 3) (xj 4294967296)]
def c349r2 : List GI := [xm 5 0,
 xb 6 .shr (xt 5) (xj 32),
 xm 0 6]
def c349r3 : List GI := [xo (.mv 2 (xi 32))]
def c349r4 : List GI := [xm 7 0,
 xb 8 .geq (xt 7) (xj 65536)]
def c349r5 : List GI := [xm 9 0,
 xb 10 .shr (xt 9) (xj 16),
 xm 0 10]
def c349r6 : List GI := [xm 11 2,
 xb 12 .add (xt 11) (xi 16),
 xm 2 12]
def c349r7 : List GI := [xm 13 0,
 xb 14 .geq (xt 13) (xj 256)]
def c349r8 : List GI := [xm 15 0,
 xb 16 .shr (xt 15) (xj 8),
 xm 0 16]
def c349r9 : List GI := [xm 17 2,
 xb 18 .add (xt 17) (xi 8),
 xm 2 18]
def c349r10 : List GI := [xm 19 2,
 xm 20 0,
 xp 21 (.cint .u8 (xt 20)),
 xp 22 (.idxS (.c (.v (.str ⟨#[0, 1, 2, 2, 3, 3, 3, 3, 4, 4, 4, 4, 4, 4, 4, 4, 5, 5, 5, 5, 5, 5, 5, 5, 5, 5, 5, 5, 5, 5, 5, 5, 6, 6, 6, 6, 6, 6, 6, 6, 6, 6, 6, 6, 6, 6, 6, 6, 6, 6, 6, 6, 6, 6, 6, 6, 6, 6, 6, 6, 6, 6, 6, 6, 7, 7, 7, 7, 7, 7, 7, 7, 7, 7, 7, 7, 7, 7, 7, 7, 7, 7, 7, 7, 7, 7, 7, 7, 7, 7, 7, 7, 7, 7, 7, 7, 7, 7, 7, 7, 7, 7, 7, 7, 7, 7, 7, 7, 7, 7, 7, 7, 7, 7, 7, 7, 7, 7, 7, 7, 7, 7, 7, 7, 7, 7, 7, 7, 8, 8, 8, 8, 8, 8, 8, 8, 8, 8, 8, 8, 8, 8, 8, 8, 8, 8, 8, 8, 8, 8, 8, 8, 8, 8, 8, 8, 8, 8, 8, 8, 8, 8, 8, 8, 8, 8, 8, 8, 8, 8, 8, 8, 8, 8, 8, 8, 8, 8, 8, 8, 8, 8, 8, 8, 8, 8, 8, 8, 8, 8, 8, 8, 8, 8, 8, 8, 8, 8, 8, 8, 8, 8, 8, 8, 8, 8, 8, 8, 8, 8, 8, 8, 8, 8, 8, 8, 8, 8, 8, 8, 8, 8, 8, 8, 8, 8, 8, 8, 8, 8, 8, 8, 8, 8, 8, 8, 8, 8, 8, 8, 8, 8, 8, 8, 8, 8, 8, 8, 8, 8, 8, 8, 8, 8, 8, 8]⟩))) (xt 21)),
 xp 23 (.cint .i64 (xt 22)),
 xb 24 .add (xt 19) (xt 23),
 xm 2 24]
def c349 : AC := (.seq (.reg c349r0 [0, 2]) (.seq (.seq (.reg c349r1 [0, 2, 4]) (.cond (xt 4) (.seq (.reg c349r2 [0]) (.reg c349r3 [0, 2])) .skip)) (.seq (.seq (.reg c349r4 [0, 2, 8]) (.cond (xt 8) (.seq (.reg c349r5 [0, 2]) (.reg c349r6 [0, 2])) .skip)) (.seq (.seq (.reg c349r7 [0, 2, 14]) (.cond (xt 14) (.seq (.reg c349r8 [0, 2]) (.reg c349r9 [0, 2])) .skip)) (.seq (.reg c349r10 [2]) .ret)))))
def c349R : List AR := [.t 2]
theorem k349 : chkF Tryz.prog GLx 349 1 c349 c349R = true := by kernel_rfl
def c350r0 : List GI := [xo (.mv 4 (xj 0))]
def c350r1 : List GI := [xm 5 1,
 xb 6 .gtr (xt 5) (xj 0)]
def c350r2 : List GI := [xm 7 1,
 xm 8 0,
 xm 9 1,
 xb 10 .rem (xt 8) (xt 9),
 xm 0 7,
 xm 1 10]
def c350l0 : AC := (.seq (.seq (.reg c350r1 [0, 1, 6]) (.cond (xt 6) .skip (.exit 0))) (.block 1 (.regD c350r2 [0, 1] [[], [], [], [1, 2], [0, 1], [0, 1, 2, 3, 4]])))
def c350r3 : List GI := [xm 11 0,
 xm 4 11]
def c350 : AC := (.seq (.reg c350r0 [0, 1]) (.seq (.block 0 (.loop c350l0)) (.seq (.reg c350r3 [4]) .ret)))
def c350R : List AR := [.t 4]
theorem k350 : chkF Tryz.prog GLx 350 2 c350 c350R = true := by kernel_rfl
def c351r0 : List GI := [xo (.box 1 (xt 0)),
 xo (.mv 2 (.c (.v (.bool false))))]
def c351r1 : List GI := [xp 3 (.load (xt 1) 2 true),
 xc 4 127 [(xt 3)],
 xb 5 .eql (xt 4) (xi 0),
 xm 6 5,
 xg 6 true (.p 7 (.faddr (xt 1) 0 1)),
 xg 6 true (.p 8 (.load (xt 7) 1 false)),
 xg 6 true (.p 9 (.bin .leq (xt 8) (xi 1073741824))),
 xp 10 (.pick (xt 6) (xt 9) (.c (.v (.bool false)))),
 xm 11 10,
 xg 11 true (.p 12 (.faddr (xt 1) 0 1)),
 xg 11 true (.p 13 (.load (xt 12) 1 false)),
 xg 11 true (.p 14 (.bin .geq (xt 13) (.c (.v (.int .i64 (-1073741824)))))),
 xp 15 (.pick (xt 11) (xt 14) (.c (.v (.bool false)))),
 xm 16 15,
 xg 16 true (.p 17 (.faddr (xt 1) 1 1)),
 xg 16 true (.p 18 (.load (xt 17) 1 false)),
 xg 16 true (.p 19 (.bin .leq (xt 18) (xi 32768))),
 xp 20 (.pick (xt 16) (xt 19) (.c (.v (.bool false)))),
 xm 2 20]
def c351 : AC := (.seq (.reg c351r0 [1]) (.seq (.reg c351r1 [2]) .ret))
def c351R : List AR := [.t 2]
theorem k351 : chkF Tryz.prog GLx 351 1 c351 c351R = true := by kernel_rfl
end Go.Va

namespace Go.Va
open Go.Proofs
def c352r0 : List GI := [xo (.box 2 (xt 0)),
 xo (.box 3 (xt 1)),
 xo (.mv 4 (.c (.v (.bool false))))]
def c352r1 : List GI := [xa 5 2 0 1,
 xl 6 5 1,
 xa 7 3 1 1,
 xl 8 7 1,
 xb 9 .mul (xt 6) (xt 8),
 xa 10 3 0 1,
 xl 11 10 1,
 xa 12 2 1 1,
 xl 13 12 1,
 xb 14 .mul (xt 11) (xt 13),
 xb 15 .lss (xt 9) (xt 14),
 xm 4 15]
def c352 : AC := (.seq (.reg c352r0 [2, 3]) (.seq (.reg c352r1 [4]) .ret))
def c352R : List AR := [.t 4]
theorem k352 : chkF Tryz.prog GLx 352 2 c352 c352R = true := by kernel_rfl
def c353r0 : List GI := [xo (.box 2 (xt 0)),
 xo (.box 3 (xt 1)),
 xo (.mv 4 (.c (.v (.bool false))))]
def c353r1 : List GI := [xa 5 2 7 1,
 xl 6 5 1,
 xm 7 6,
 xg 7 false (.p 8 (.faddr (xt 3) 6 1)),
 xg 7 false (.p 9 (.load (xt 8) 1 false)),
 xp 10 (.pick (xt 7) (.c (.v (.bool true))) (xt 9))]
def c353r2 : List GI := [xo (.mv 4 (.c (.v (.bool false))))]
def c353r3 : List GI := [xa 11 2 2 2,
 xp 12 (.load (xt 11) 2 true),
 xa 13 3 0 2,
 xp 14 (.load (xt 13) 2 true),
 xp 15 (.eqA false [0, 0] (xt 12) (xt 14))]
def c353r4 : List GI := [xa 16 2 5 1,
 xl 17 16 1,
 xm 18 17,
 xg 18 true (.p 19 (.faddr (xt 3) 4 1)),
 xg 18 true (.p 20 (.load (xt 19) 1 false)),
 xp 21 (.pick (xt 18) (xt 20) (.c (.v (.bool false)))),
 xm 4 21]
def c353r5 : List GI := [xa 22 2 2 2,
 xp 23 (.load (xt 22) 2 true),
 xa 24 3 0 2,
 xp 25 (.load (xt 24) 2 true),
 xc 26 352 [(xt 23), (xt 25)],
 xm 4 26]
def c353 : AC := (.seq (.reg c353r0 [2, 3]) (.seq (.seq (.reg c353r1 [2, 3, 10]) (.cond (xt 10) (.seq (.reg c353r2 [4]) .ret) .skip)) (.seq (.seq (.reg c353r3 [2, 3, 15]) (.cond (xt 15) (.seq (.reg c353r4 [4]) .ret) .skip)) (.seq (.reg c353r5 [4]) .ret))))
def c353R : List AR := [.t 4]
theorem k353 : chkF Tryz.prog GLx 353 2 c353 c353R = true := by kernel_rfl
end Go.Va

namespace Go.Va
open Go.Proofs
def tb0 : List (Nat × Nat × AC × List AR) := [(13, 2, c13, c13R), (17, 1, c17, c17R), (20, 0, c20, c20R)]
theorem tb0_ok : ∀ x ∈ tb0, chkF Tryz.prog GLx x.1 x.2.1 x.2.2.1 x.2.2.2 = true := by
  simp only [tb0, List.forall_mem_cons, List.not_mem_nil, false_implies, implies_true, and_true]
  exact ⟨k13, k17, k20⟩
def tb1 : List (Nat × Nat × AC × List AR) := [(34, 4, c34, c34R), (39, 2, c39, c39R), (40, 1, c40, c40R), (50, 0, c50, c50R), (51, 1, c51, c51R), (52, 3, c52, c52R), (57, 1, c57, c57R), (59, 2, c59, c59R), (61, 2, c61, c61R)]
theorem tb1_ok : ∀ x ∈ tb1, chkF Tryz.prog GLx x.1 x.2.1 x.2.2.1 x.2.2.2 = true := by
  simp only [tb1, List.forall_mem_cons, List.not_mem_nil, false_implies, implies_true, and_true]
  exact ⟨k34, k39, k40, k50, k51, k52, k57, k59, k61⟩
def tb2 : List (Nat × Nat × AC × List AR) := [(86, 2, c86, c86R), (87, 1, c87, c87R), (88, 1, c88, c88R), (89, 5, c89, c89R), (90, 2, c90, c90R), (91, 2, c91, c91R), (92, 2, c92, c92R), (95, 2, c95, c95R)]
theorem tb2_ok : ∀ x ∈ tb2, chkF Tryz.prog GLx x.1 x.2.1 x.2.2.1 x.2.2.2 = true := by
  simp only [tb2, List.forall_mem_cons, List.not_mem_nil, false_implies, implies_true, and_true]
  exact ⟨k86, k87, k88, k89, k90, k91, k92, k95⟩
def tb3 : List (Nat × Nat × AC × List AR) := [(96, 2, c96, c96R), (98, 2, c98, c98R), (99, 2, c99, c99R), (100, 2, c100, c100R), (102, 1, c102, c102R), (117, 1, c117, c117R), (120, 2, c120, c120R), (121, 1, c121, c121R), (122, 1, c122, c122R)]
theorem tb3_ok : ∀ x ∈ tb3, chkF Tryz.prog GLx x.1 x.2.1 x.2.2.1 x.2.2.2 = true := by
  simp only [tb3, List.forall_mem_cons, List.not_mem_nil, false_implies, implies_true, and_true]
  exact ⟨k96, k98, k99, k100, k102, k117, k120, k121, k122⟩
def tb4 : List (Nat × Nat × AC × List AR) := [(128, 1, c128, c128R), (129, 2, c129, c129R), (130, 1, c130, c130R), (131, 1, c131, c131R), (132, 3, c132, c132R), (133, 2, c133, c133R), (137, 3, c137, c137R), (138, 1, c138, c138R), (151, 2, c151, c151R)]
theorem tb4_ok : ∀ x ∈ tb4, chkF Tryz.prog GLx x.1 x.2.1 x.2.2.1 x.2.2.2 = true := by
  simp only [tb4, List.forall_mem_cons, List.not_mem_nil, false_implies, implies_true, and_true]
  exact ⟨k128, k129, k130, k131, k132, k133, k137, k138, k151⟩
def tb5 : List (Nat × Nat × AC × List AR) := [(176, 1, c176, c176R), (177, 2, c177, c177R), (178, 3, c178, c178R), (179, 4, c179, c179R), (180, 3, c180, c180R), (181, 1, c181, c181R), (182, 2, c182, c182R), (183, 2, c183, c183R), (189, 1, c189, c189R), (190, 2, c190, c190R)]
theorem tb5_ok : ∀ x ∈ tb5, chkF Tryz.prog GLx x.1 x.2.1 x.2.2.1 x.2.2.2 = true := by
  simp only [tb5, List.forall_mem_cons, List.not_mem_nil, false_implies, implies_true, and_true]
  exact ⟨k176, k177, k178, k179, k180, k181, k182, k183, k189, k190⟩
def tb6 : List (Nat × Nat × AC × List AR) := [(192, 2, c192, c192R), (193, 1, c193, c193R), (194, 2, c194, c194R), (208, 2, c208, c208R), (209, 1, c209, c209R), (210, 1, c210, c210R), (216, 3, c216, c216R), (217, 2, c217, c217R), (219, 2, c219, c219R), (221, 2, c221, c221R), (223, 2, c223, c223R)]
theorem tb6_ok : ∀ x ∈ tb6, chkF Tryz.prog GLx x.1 x.2.1 x.2.2.1 x.2.2.2 = true := by
  simp only [tb6, List.forall_mem_cons, List.not_mem_nil, false_implies, implies_true, and_true]
  exact ⟨k192, k193, k194, k208, k209, k210, k216, k217, k219, k221, k223⟩
def tb7 : List (Nat × Nat × AC × List AR) := [(225, 2, c225, c225R), (228, 2, c228, c228R), (230, 2, c230, c230R), (233, 2, c233, c233R), (234, 2, c234, c234R), (237, 1, c237, c237R), (238, 1, c238, c238R), (239, 2, c239, c239R), (240, 1, c240, c240R), (252, 2, c252, c252R)]
theorem tb7_ok : ∀ x ∈ tb7, chkF Tryz.prog GLx x.1 x.2.1 x.2.2.1 x.2.2.2 = true := by
  simp only [tb7, List.forall_mem_cons, List.not_mem_nil, false_implies, implies_true, and_true]
  exact ⟨k225, k228, k230, k233, k234, k237, k238, k239, k240, k252⟩
def tb8 : List (Nat × Nat × AC × List AR) := [(270, 2, c270, c270R), (271, 1, c271, c271R), (272, 2, c272, c272R), (277, 2, c277, c277R), (279, 2, c279, c279R), (284, 2, c284, c284R)]
theorem tb8_ok : ∀ x ∈ tb8, chkF Tryz.prog GLx x.1 x.2.1 x.2.2.1 x.2.2.2 = true := by
  simp only [tb8, List.forall_mem_cons, List.not_mem_nil, false_implies, implies_true, and_true]
  exact ⟨k270, k271, k272, k277, k279, k284⟩
def tb9 : List (Nat × Nat × AC × List AR) := [(293, 2, c293, c293R), (296, 1, c296, c296R), (299, 1, c299, c299R), (301, 3, c301, c301R), (302, 5, c302, c302R), (318, 2, c318, c318R)]
theorem tb9_ok : ∀ x ∈ tb9, chkF Tryz.prog GLx x.1 x.2.1 x.2.2.1 x.2.2.2 = true := by
  simp only [tb9, List.forall_mem_cons, List.not_mem_nil, false_implies, implies_true, and_true]
  exact ⟨k293, k296, k299, k301, k302, k318⟩
def tb10 : List (Nat × Nat × AC × List AR) := [(321, 1, c321, c321R), (323, 2, c323, c323R), (324, 2, c324, c324R), (327, 4, c327, c327R), (328, 1, c328, c328R), (340, 3, c340, c340R), (349, 1, c349, c349R)]
theorem tb10_ok : ∀ x ∈ tb10, chkF Tryz.prog GLx x.1 x.2.1 x.2.2.1 x.2.2.2 = true := by
  simp only [tb10, List.forall_mem_cons, List.not_mem_nil, false_implies, implies_true, and_true]
  exact ⟨k321, k323, k324, k327, k328, k340, k349⟩
def lookT (l : List (Nat × Nat × AC × List AR)) (f : Nat) : Option (Nat × AC × List AR) :=
  match l with
  | [] => none
  | x :: l => if x.1 = f then some x.2 else lookT l f
theorem lookT_ok {l : List (Nat × Nat × AC × List AR)} (h : ∀ x ∈ l, chkF Tryz.prog GLx x.1 x.2.1 x.2.2.1 x.2.2.2 = true) : ∀ f n ac rs, lookT l f = some (n, ac, rs) → chkF Tryz.prog GLx f n ac rs = true := by
  induction l with
  | nil => intro f n ac rs hl; cases hl
  | cons x l ih =>
    intro f n ac rs hl
    simp only [lookT] at hl
    split at hl
    · rename_i hx
      simp only [Option.some.injEq] at hl
      have := h x (by simp)
      rw [hx, hl] at this; exact this
    · exact ih (fun y hy => h y (by simp [hy])) f n ac rs hl
def Tb : Tbl := fun f => match f / 32 with
  | 0 => lookT tb0 f
  | 1 => lookT tb1 f
  | 2 => lookT tb2 f
  | 3 => lookT tb3 f
  | 4 => lookT tb4 f
  | 5 => lookT tb5 f
  | 6 => lookT tb6 f
  | 7 => lookT tb7 f
  | 8 => lookT tb8 f
  | 9 => lookT tb9 f
  | 10 => lookT tb10 f
  | _ => none
theorem Tb_ok : ∀ f n ac rs, Tb f = some (n, ac, rs) → chkF Tryz.prog GLx f n ac rs = true := by
  intro f n ac rs h
  unfold Tb at h
  split at h
  · exact lookT_ok tb0_ok f n ac rs h
  · exact lookT_ok tb1_ok f n ac rs h
  · exact lookT_ok tb2_ok f n ac rs h
  · exact lookT_ok tb3_ok f n ac rs h
  · exact lookT_ok tb4_ok f n ac rs h
  · exact lookT_ok tb5_ok f n ac rs h
  · exact lookT_ok tb6_ok f n ac rs h
  · exact lookT_ok tb7_ok f n ac rs h
  · exact lookT_ok tb8_ok f n ac rs h
  · exact lookT_ok tb9_ok f n ac rs h
  · exact lookT_ok tb10_ok f n ac rs h
  · cases h
end Go.Va

namespace Go.Va
open Go.Proofs
def is64 (k : Int) : Bool := decide (-9223372036854775808 ≤ k) && decide (k < 9223372036854775808)
def Pr2 : Prims := fun f args h =>
  if f = 9 then (match args, h with | [], [] => some ([.ref 0 0], [.dead]) | _, _ => none)
  else if f = 298 then (match args with
    | [.func 300 [.ref r 0]] => match h[r]? with
      | some (.cells [.mref m]) => match h[m]? with
        | some (.map [] _ _) => some ([.own 3 1 []], [])
        | some (.map [(.int .i64 k, _)] _ _) => if is64 k then some ([.own 3 1 [.int .i64 k]], []) else none
        | _ => none
      | _ => none
    | _ => none)
  else none
theorem e20 : (ev Tb Pr2 3000).Pf 20 [] = some [.bool true] := by kernel_rfl
end Go.Va

namespace Go.Va
section
variable {P : Program} {GL : Globals}
theorem awp_loop_one {c : AC} {Q : AExit → St → Prop} {s s1 : St} (h : awp P GL c (fun e s' => match e with | .normal => s' = s1 | e => Q e s') s) (h1 : awp P GL (.loop c) Q s1) : awp P GL (.loop c) Q s := by
  obtain ⟨n, hn⟩ := awp_loopW h1
  refine LoopW.awp (n := n + 1) (awp_mono c ?_ h)
  intro e s' h
  cases e with
  | normal => subst h; exact hn
  | exit i => exact h
  | ret => exact h
theorem awp_loop_end {c : AC} {Q : AExit → St → Prop} {s : St} (h : awp P GL c (fun e s' => match e with | .normal => False | e => Q e s') s) : awp P GL (.loop c) Q s := by
  refine LoopW.awp (n := 1) (awp_mono c ?_ h)
  intro e s' h
  cases e with
  | normal => exact h.elim
  | exit i => exact h
  | ret => exact h
theorem get_set {h : List Row} {r : Nat} {x y : Row} (hr : h[r]? = some y) : (h.set r x)[r]? = some x := List.getElem?_set_self (List.getElem?_eq_some_iff.1 hr).1
theorem get_app (h : List Row) (x : Row) : (h ++ [x])[h.length]? = some x := by simp
theorem get_old {h : List Row} {r : Nat} {y : Row} (l : List Row) (hr : h[r]? = some y) : (h ++ l)[r]? = some y := by
  rw [List.getElem?_append_left (List.getElem?_eq_some_iff.1 hr).1]; exact hr
theorem lt_of_get {h : List Row} {r : Nat} {y : Row} (hr : h[r]? = some y) : r < h.length := (List.getElem?_eq_some_iff.1 hr).1
theorem set_new (h : List Row) (x y : Row) : (h ++ [x]).set h.length y = h ++ [y] := by
  rw [List.set_append_right _ _ (Nat.le_refl _)]; simp
end
end Go.Va

namespace Go.Va
open Go.Proofs
theorem p193 (n : Int) (hn : i64 n) : PSp Tryz.prog GLx 193 [.int .i64 n] [.int .u64 (zigI n)] := by
  refine psp_of_awp k193 rfl ?_
  simp [c193, awp, c193r0, c193r1, c193R, entry]
  have e1 : ((2 : Int) ^ min 1 IntKind.u64.bits) = 2 := by decide
  have e2 : ((2 : Int) ^ min 63 IntKind.i64.bits) = 9223372036854775808 := by decide
  have e3 : ((2 : Int) ^ IntKind.u64.bits) = 18446744073709551616 := by decide
  simp only [e1, e2, e3, wrap_u64_mod]
  unfold i64 at hn
  unfold zigI
  by_cases h0 : n < 0
  · have q : n.fdiv 9223372036854775808 = -1 := by rw [Int.fdiv_eq_ediv_of_nonneg _ (by decide)]; omega
    have a1 : (n % 18446744073709551616 * 2 % 18446744073709551616 % 18446744073709551616).toNat = (18446744073709551616 + 2 * n).toNat := by congr 1; omega
    have a2 : (n.fdiv 9223372036854775808 % 18446744073709551616 % 18446744073709551616).toNat = 2 ^ 64 - 1 := by rw [q]; rfl
    rw [a1, a2, xor_ones _ (by omega), if_pos h0]
    omega
  · have q : n.fdiv 9223372036854775808 = 0 := by rw [Int.fdiv_eq_ediv_of_nonneg _ (by decide)]; omega
    have a1 : (n % 18446744073709551616 * 2 % 18446744073709551616 % 18446744073709551616).toNat = (2 * n).toNat := by congr 1; omega
    have a2 : (n.fdiv 9223372036854775808 % 18446744073709551616 % 18446744073709551616).toNat = 0 := by rw [q]; rfl
    rw [a1, a2, Nat.xor_zero, if_neg h0]
    omega
theorem p199 (n : Int) (hn : i64 n) : PSp Tryz.prog GLx 199 [.int .i64 n] [.int .u64 (zigI n)] := by
  refine psp_of_awp k199 rfl ?_
  unfold i64 at hn
  unfold zigI
  by_cases h0 : n < 0
  · simp [c199, awp, c199r0, c199r1, c199r2, c199R, entry, h0]
    have a1 : IntKind.i64.wrap (n + 1) = n + 1 := wrap_i64 (by omega) (by omega)
    rw [a1, wrap_i64 (a := -(n + 1)) (by omega) (by omega)]
    simp only [wrap_u64_mod]
    omega
  · simp [c199, awp, c199r0, c199r1, c199r3, c199R, entry, h0]
    simp only [wrap_u64_mod]
    omega
theorem or_byte {n : Int} : IntKind.u8.wrap (((IntKind.u8.wrap n % 2 ^ IntKind.u8.bits).toNat ||| 128 % 2 ^ IntKind.u8.bits : Nat) : Int) = 128 + n % 128 := by
  have e3 : ((2 : Int) ^ IntKind.u8.bits) = 256 := by decide
  have e4 : (128 % 2 ^ IntKind.u8.bits) = 128 := by decide
  rw [e3, e4]
  have hm : (IntKind.u8.wrap n % 256).toNat < 256 := by rw [wrap_u8_mod]; omega
  rw [or128 _ hm, wrap_u8_mod, wrap_u8_mod]
  omega
theorem l192 (k : Nat) : ∀ (n : Int) (h : List Row) (r : Nat) (xs : List Int), 0 ≤ n → n < 128 ^ (k + 1) → n < 18446744073709551616 → h[r]? = some (wr xs) → xs.length + k ≤ 2 ^ 46 →
    ∃ ys m, uvarF k n = ys ++ [m] ∧ 0 ≤ m ∧ m < 128 ∧
    awp Tryz.prog GLx (.loop c192l0) (fun e s => e = .exit 0 ∧ s = ⟨[(0, .ref r 0), (1, .v (.int .u64 m)), (5, .v (.bool false))], h.set r (wr (xs ++ ys))⟩) ⟨[(0, .ref r 0), (1, .v (.int .u64 n))], h⟩ := by
  induction k with
  | zero =>
    intro n h r xs h0 h1 h2 hr hl
    refine ⟨[], n, rfl, h0, by simpa using h1, ?_⟩
    have h3' : (128 : Int) ^ (0 + 1) = 128 := by decide
    have h3 : ¬ 128 ≤ n := by omega
    refine awp_loop_end ?_
    simp only [c192l0, awp_seq, awp_reg, awp_block, awp_cond, c192r0]
    simp [h3, awp_exit, set_self hr]
  | succ k ih =>
    intro n h r xs h0 h1 h2 hr hl
    by_cases h3 : 128 ≤ n
    · have hr2 : ∀ x, (h.set r x)[r]? = some x := fun x => get_set hr
      have hd0 : 0 ≤ n / 128 := by omega
      have hd1 : n / 128 < 128 ^ (k + 1) := Int.ediv_lt_of_lt_mul (by decide) (by rw [← Int.pow_succ]; exact h1)
      obtain ⟨ys, m, e1, e2, e3, hw⟩ := ih (n / 128) (h.set r (wr (xs ++ [128 + n % 128]))) r (xs ++ [128 + n % 128]) hd0 hd1 (by omega) (hr2 _) (by simp; omega)
      refine ⟨(128 + n % 128) :: ys, m, ?_, e2, e3, ?_⟩
      · simp only [uvarF, if_neg (show ¬ n < 128 by omega), e1, List.cons_append]
      · refine awp_loop_one (s1 := ⟨[(0, .ref r 0), (1, .v (.int .u64 (n / 128)))], h.set r (wr (xs ++ [128 + n % 128]))⟩) ?_ ?_
        · simp only [c192l0, awp_seq, awp_reg, awp_block, awp_cond, c192r0]
          simp [h3, awp_skip]
          have hroom : roomy (xs.length + 1) 1 = true := by simp [roomy]; omega
          have e5 : ((2 : Int) ^ min 7 IntKind.u64.bits) = 128 := by decide
          simp only [awp_reg, c192r2, c192r1]
          simp [hr, wr, hr2, V.cells, ownOf, headOK, hroom, or_byte, e5, Int.fdiv_eq_ediv_of_nonneg]
        · rw [List.set_set] at hw
          simpa using hw
    · refine ⟨[], n, by simp only [uvarF, if_pos (show n < 128 by omega)]; rfl, h0, by omega, ?_⟩
      refine awp_loop_end ?_
      simp only [c192l0, awp_seq, awp_reg, awp_block, awp_cond, c192r0]
      simp [h3, awp_exit, set_self hr]
theorem p192 (n : Int) (hn : u64 n) (h : List Row) (r : Nat) (xs : List Int) (hr : h[r]? = some (wr xs)) (hl : xs.length ≤ 2 ^ 45) : FSp Tryz.prog GLx 192 [.ref r 0, .v (.int .u64 n)] h [] (h.set r (wr (xs ++ uvar n))) := by
  refine fsp_of_awp k192 rfl ?_
  unfold u64 at hn
  have h128 : (128 : Int) ^ (9 + 1) = 1180591620717411303424 := by decide
  obtain ⟨ys, m, e1, e2, e3, hw⟩ := l192 9 n h r xs hn.1 (by omega) hn.2 hr (by omega)
  have hys : ys.length ≤ 9 := by have := uvarF_len 9 n; rw [e1] at this; simp at this; omega
  simp only [c192, awp_seq, awp_block, entryD]
  simp
  refine awp_to hw ?_
  have hr2 : ∀ x, (h.set r x)[r]? = some x := fun x => get_set hr
  have hroom : roomy (xs.length + ys.length + 1) 1 = true := by simp [roomy]; omega
  simp only [awp_reg, c192r3]
  simp [wr, hr2, V.cells, ownOf, headOK, hroom, wrap_u8 e2 (show m < 256 by omega), c192R, resDs, uvar, e1]
end Go.Va

namespace Go.Va
open Go.Proofs
theorem p175 (a b : Int) : PSp Tryz.prog GLx 175 [.int .u64 a, .int .u64 b] [.int .u64 (mixI a b)] := by
  refine psp_of_awp k175 rfl ?_
  simp [c175, awp, c175r0, c175r1, c175r2, c175R, entry]
  have h := wrap_u64_range (IntKind.u64.wrap ↑((a % 2 ^ IntKind.u64.bits).toNat ^^^ (b % 2 ^ IntKind.u64.bits).toNat) * 11400714819323198485)
  have e := wrap_u64_range ((IntKind.u64.wrap (IntKind.u64.wrap ↑((a % 2 ^ IntKind.u64.bits).toNat ^^^ (b % 2 ^ IntKind.u64.bits).toNat) * 11400714819323198485)) / 4294967296)
  rw [Int.tdiv_eq_ediv_of_nonneg h.1, wrap_u64 (a := _ / 4294967296) (by omega) (by omega)]
  rfl
theorem p190 (a b : Int) : PSp Tryz.prog GLx 190 [.int .u64 a, .int .u64 b] [.int .u64 (mixI a b)] := by
  refine psp_of_awp k190 rfl ?_
  simp [c190, awp, c190r0, c190r1, c190r2, c190R, entry]
  have e : ((2 : Int) ^ min 32 IntKind.u64.bits) = 4294967296 := by decide
  rw [e, Int.fdiv_eq_ediv_of_nonneg _ (by decide)]
  rfl
theorem l174_1 (bs : List Int) (hb : ∀ b ∈ bs, 0 ≤ b ∧ b < 256) (hl : bs.length ≤ 2^40) (x : D) (k : Nat) (hk : 8 * k < bs.length) :
    awp Tryz.prog GLx (.loop c174l1) (fun e s => e = .exit 2 ∧ s = ⟨[(0, .v (nums .u8 bs)), (3, x), (4, .v (.int .i64 (8 * k : Nat))), (5, .v (.int .u64 (le8 ((bs.drop (8 * k)).take 8)))), (6, .v (.int .i64 (8 * k - 1))), (21, .v (.bool false))], []⟩)
      ⟨[(0, .v (nums .u8 bs)), (3, x), (4, .v (.int .i64 (8 * k : Nat))), (5, .v (.int .u64 0)), (6, .v (.int .i64 ((min (8 * k + 8) bs.length : Nat) - 1)))], []⟩ := by
  have hm : 8 * k < min (8 * k + 8) bs.length := by omega
  generalize hmm : min (8 * k + 8) bs.length = m at hm
  have := awp_loop_nat (P := Tryz.prog) (GL := GLx) (c := c174l1) (Q := fun e s => e = .exit 2 ∧ s = ⟨[(0, .v (nums .u8 bs)), (3, x), (4, .v (.int .i64 (8 * k : Nat))), (5, .v (.int .u64 (le8 ((bs.drop (8 * k)).take 8)))), (6, .v (.int .i64 (8 * k - 1))), (21, .v (.bool false))], []⟩) (m - 8 * k)
    (fun j => ⟨[(0, .v (nums .u8 bs)), (3, x), (4, .v (.int .i64 (8 * k : Nat))), (5, .v (.int .u64 (le8 ((bs.drop (m - j)).take j)))), (6, .v (.int .i64 ((m : Int) - j - 1)))], []⟩) ?_ 0 (Nat.zero_le _)
  · simpa [le8] using this
  intro j hj
  simp only [c174l1, awp_seq, awp_reg, awp_block, awp_cond, c174r7]
  simp [nums]
  by_cases h1 : (8 * (k : Int)) ≤ (m : Int) - j - 1
  · rw [if_pos h1, awp_skip]
    have hi : m - j - 1 < bs.length := by omega
    obtain ⟨b0, hb0⟩ : ∃ b0, bs[m - j - 1]? = some b0 := ⟨_, List.getElem?_eq_getElem hi⟩
    obtain ⟨hb1, hb2⟩ := hb b0 (List.mem_of_getElem? hb0)
    have h2 : 1 ≤ (m : Int) - j := by omega
    have hd : bs.drop (m - (j + 1)) = b0 :: bs.drop (m - j) := by
      rw [show m - (j + 1) = m - j - 1 by omega, List.drop_eq_getElem_cons hi, show m - j - 1 + 1 = m - j by omega]
      rw [(List.getElem?_eq_some_iff.1 hb0).2]
    have hw : le8 ((bs.drop (m - (j + 1))).take (j + 1)) = IntKind.u64.wrap (IntKind.u64.wrap (256 * le8 ((bs.drop (m - j)).take j)) + IntKind.u64.wrap b0) := by
      rw [hd, List.take_succ_cons]
      have e : ∀ l, le8 (b0 :: l) = 256 * le8 l + b0 := fun _ => rfl
      rw [e]
      obtain ⟨q1, q2⟩ := le8_take bs hb (m - j) j (by omega)
      have q3 : (256 : Int) ^ j ≤ 256 ^ 7 := ipow_le (by omega)
      have q4 : (256 : Int) ^ 7 = 72057594037927936 := by decide
      rw [wrap_u64 hb1 (by omega), wrap_u64 (a := 256 * _) (by omega) (by omega), wrap_u64 (by omega) (by omega)]
    simp only [c174r8, c174r9]
    simp [hb0, h2, V.cells]
    refine ⟨by omega, ?_⟩
    exact ⟨hw.symm, by rw [wrap_i64 (by omega) (by omega)]; omega⟩
  · rw [if_neg h1, awp_exit]
    have : m - 8 * k = j := by omega
    subst this
    simp
    refine ⟨?_, by omega, by omega⟩
    rw [show m - (m - 8 * k) = 8 * k by omega]
    rcases Nat.lt_or_ge (m - 8 * k) 8 with h | h
    · have hm2 : m = bs.length := by omega
      subst hm2
      rw [List.take_of_length_le (by simp), List.take_of_length_le (by simp; omega)]
    · rw [show m - 8 * k = 8 by omega]
theorem p174 (bs : List Int) (hb : ∀ b ∈ bs, 0 ≤ b ∧ b < 256) (hl : bs.length ≤ 2^40) : PSp Tryz.prog GLx 174 [nums .u8 bs] [nums .u64 (wordsI bs)] := by
  refine psp_of_awp k174 rfl ?_
  simp only [c174, awp_seq, awp_reg, awp_block, c174r0, c174r1, c174r2, entry]
  simp [nums]
  refine awp_loop_nat ((bs.length + 7) / 8) (fun k => ⟨[(0, .v (nums .u8 bs)), (3, .own 47 1 (((wordsI bs).take k).map (.int .u64))), (4, .v (.int .i64 (8 * k : Nat)))], []⟩) ?_ 0 (Nat.zero_le _)
  intro k hk
  simp only [c174l0, awp_seq, awp_reg, awp_block, awp_cond, c174r3]
  simp [nums]
  by_cases h1 : 8 * (k : Int) < bs.length
  · rw [if_pos h1, awp_skip]
    simp only [c174r5, c174r6]
    simp
    have hw : IntKind.i64.wrap (8 * (k : Int) + 8) = 8 * k + 8 := wrap_i64 (by omega) (by omega)
    have hw2 : IntKind.i64.wrap ((if (bs.length : Int) < 8 * k + 8 then (bs.length : Int) else 8 * k + 8) - 1) = ((min (8 * k + 8) bs.length : Nat) - 1 : Int) := by
      rw [wrap_i64 (by split <;> omega) (by split <;> omega)]
      split <;> omega
    rw [hw, hw2]
    have := l174_1 bs hb hl (.own 47 1 (((wordsI bs).take k).map (.int .u64))) k (by omega)
    simp [nums] at this
    refine awp_to this ?_
    have hwk : (wordsI bs).take (k + 1) = (wordsI bs).take k ++ [le8 ((bs.drop (8 * k)).take 8)] := by
      have hlt : k < (wordsI bs).length := by simp [wordsI]; omega
      rw [List.take_succ_eq_append_getElem hlt]
      simp [wordsI]
    have hr : roomy (min k (wordsI bs).length + 1) 8 = true := by
      simp only [roomy, decide_eq_true_eq]
      have : min k (wordsI bs).length ≤ k := Nat.min_le_left _ _
      omega
    simp only [c174r10, c174r4]
    simp [headOK, V.cells, hr, hw]
    refine ⟨by omega, ?_, by omega⟩
    rw [← List.map_take, ← List.map_take, hwk]; simp
  · rw [if_neg h1, awp_exit]
    have hk2 : k = (bs.length + 7) / 8 := by omega
    simp [c174r11, c174R, awp_ret]
    rw [hk2]
    simp [wordsI]
    rw [List.take_of_length_le (by simp)]
end Go.Va

namespace Go.Va
open Go.Proofs
def sumI (label : List Int) (l : List Int) : Int :=
  mixI (l.foldl (fun s n => mixI s (IntKind.u64.wrap n)) (mixI (mixI ((wordsI label).foldl mixI 0) label.length) l.length)) 0
theorem l84_0 (lab : D) (l : V) (ws : List Int) (hl : ws.length ≤ 2 ^ 40) :
    awp Tryz.prog GLx (.loop c84l0) (fun e s => e = .exit 0 ∧ s = ⟨[(0, lab), (1, .v l), (5, .v (.int .u64 (ws.foldl mixI 0))), (6, .v (nums .u64 ws)), (7, .v (.int .i64 ws.length)), (15, .v (.bool false))], []⟩)
      ⟨[(0, lab), (1, .v l), (5, .v (.int .u64 0)), (6, .v (nums .u64 ws)), (7, .v (.int .i64 0))], []⟩ := by
  refine awp_loop_nat ws.length (fun k => ⟨[(0, lab), (1, .v l), (5, .v (.int .u64 ((ws.take k).foldl mixI 0))), (6, .v (nums .u64 ws)), (7, .v (.int .i64 k))], []⟩) ?_ 0 (Nat.zero_le _)
  intro k hk
  simp only [c84l0, awp_seq, awp_reg, awp_block, awp_cond, c84r4]
  simp [nums]
  by_cases h1 : k < ws.length
  · have hx : ws[k]? = some ws[k] := List.getElem?_eq_getElem h1
    have hw : IntKind.i64.wrap ((k : Int) + 1) = k + 1 := wrap_i64 (by omega) (by omega)
    rw [if_pos (by omega), awp_skip]
    simp only [c84r5, c84r6]
    simp [hx, V.cells, fnOf, D.norm, argsOf, D.arg]
    have hp := (p175 ((ws.take k).foldl mixI 0) ws[k]).fsp []
    refine ⟨_, _, hp, ?_⟩
    refine ⟨h1, ⟨?_, hw⟩, rfl⟩
    rw [List.take_succ_eq_append_getElem h1, List.foldl_append]; rfl
  · have : k = ws.length := by omega
    subst this
    rw [if_neg (by omega), awp_exit]
    simp
theorem l84_1 (l : List Int) (s0 : Int) (hl : l.length ≤ 2 ^ 40) :
    awp Tryz.prog GLx (.loop c84l1) (fun e s => e = .exit 2 ∧ s = ⟨[(1, .v (nums .i64 l)), (5, .v (.int .u64 (l.foldl (fun s n => mixI s (IntKind.u64.wrap n)) s0))), (8, .v (.int .i64 l.length)), (37, .v (.bool false))], []⟩)
      ⟨[(1, .v (nums .i64 l)), (5, .v (.int .u64 s0)), (8, .v (.int .i64 0))], []⟩ := by
  refine awp_loop_nat l.length (fun k => ⟨[(1, .v (nums .i64 l)), (5, .v (.int .u64 ((l.take k).foldl (fun s n => mixI s (IntKind.u64.wrap n)) s0))), (8, .v (.int .i64 k))], []⟩) ?_ 0 (Nat.zero_le _)
  intro k hk
  simp only [c84l1, awp_seq, awp_reg, awp_block, awp_cond, c84r10]
  simp [nums]
  by_cases h1 : k < l.length
  · have hx : l[k]? = some l[k] := List.getElem?_eq_getElem h1
    have hw : IntKind.i64.wrap ((k : Int) + 1) = k + 1 := wrap_i64 (by omega) (by omega)
    rw [if_pos (by omega), awp_skip]
    simp only [c84r11, c84r12]
    simp [hx, V.cells, fnOf, D.norm, argsOf, D.arg]
    have hp := (p175 ((l.take k).foldl (fun s n => mixI s (IntKind.u64.wrap n)) s0) (IntKind.u64.wrap l[k])).fsp []
    refine ⟨_, _, hp, ?_⟩
    refine ⟨h1, ⟨?_, hw⟩, rfl⟩
    rw [List.take_succ_eq_append_getElem h1, List.foldl_append]; rfl
  · have : k = l.length := by omega
    subst this
    rw [if_neg (by omega), awp_exit]
    simp
def bytesI (b : ByteArray) : List Int := b.data.toList.map fun c => (c.toNat : Int)
theorem p84 (b : ByteArray) (l : List Int) (hb : b.size ≤ 2 ^ 39) (hl : l.length ≤ 2 ^ 40) : PSp Tryz.prog GLx 84 [.str b, nums .i64 l] [.int .u64 (sumI (bytesI b) l)] := by
  refine psp_of_awp k84 rfl ?_
  have hbl : (bytesI b).length = b.size := by simp [bytesI]
  have hw := p174 (bytesI b) (fun x hx => by
    simp only [bytesI, List.mem_map] at hx
    obtain ⟨c, _, rfl⟩ := hx
    have := c.toNat_lt; omega) (by omega)
  have hwl : (wordsI (bytesI b)).length ≤ 2 ^ 40 := by simp [wordsI]; omega
  simp only [c84, awp_seq, awp_reg, awp_block, c84r0, c84r1, c84r2, c84r3, entry]
  simp [fnOf, D.norm, argsOf, D.arg]
  have e1 : nums .u8 (bytesI b) = .list (b.data.toList.map fun c => V.int .u8 c.toNat) := by simp [nums, bytesI]
  rw [e1] at hw
  have hp := hw.fsp []
  simp at hp
  refine ⟨_, _, hp, ?_⟩
  simp [retDs]
  refine awp_to (l84_0 (.v (.str b)) (nums .i64 l) (wordsI (bytesI b)) hwl) ?_
  simp only [c84r7, c84r8, c84r9]
  simp [fnOf, D.norm, argsOf, D.arg, nums]
  have w1 : IntKind.u64.wrap (b.size : Int) = b.size := wrap_u64 (by omega) (by omega)
  have w2 : IntKind.u64.wrap (l.length : Int) = l.length := wrap_u64 (by omega) (by omega)
  rw [w1]
  refine ⟨_, _, (p175 ((wordsI (bytesI b)).foldl mixI 0) b.size).fsp [], ?_⟩
  simp [retDs, w2]
  refine ⟨_, _, (p175 (mixI ((wordsI (bytesI b)).foldl mixI 0) b.size) l.length).fsp [], ?_⟩
  simp [retDs]
  have hl1 := l84_1 l (mixI (mixI ((wordsI (bytesI b)).foldl mixI 0) b.size) l.length) hl
  simp only [nums] at hl1
  refine awp_to hl1 ?_
  simp only [c84r13]
  simp [fnOf, D.norm, argsOf, D.arg]
  refine ⟨_, _, (p175 _ 0).fsp [], ?_⟩
  simp [retDs, awp_ret, c84R, sumI, hbl]
end Go.Va

namespace Go.Va
open Go.Proofs
attribute [simp] fnOf D.norm argsOf D.arg retDs get_set get_app V.cells resDs AR.d D.keep
@[simp] theorem headOK_nil (s : Nat) : headOK s [] = true := rfl
@[simp] theorem headOK_cons (s : Nat) (x : V) (xs : List V) : headOK s (x :: xs) = (x.cells.length == s) := rfl
@[simp] theorem headOK_int (k : IntKind) (l : List Int) : headOK 1 (l.map (V.int k)) = true := by cases l <;> rfl
theorem awp_loop_nat0 {P : Program} {GL : Globals} {c : AC} {Q : AExit → St → Prop} (n : Nat) (S : Nat → St) {s : St} (hs : s = S 0)
    (h : ∀ k, k ≤ n → awp P GL c (fun e s' => match e with | .normal => k < n ∧ s' = S (k + 1) | e => Q e s') (S k)) : awp P GL (.loop c) Q s :=
  hs ▸ awp_loop_nat n S h 0 (Nat.zero_le _)
theorem flat_take {α β : Type} {f : α → List β} {l : List α} {k : Nat} (h : k < l.length) : (l.take (k + 1)).flatMap f = (l.take k).flatMap f ++ f l[k] := by
  rw [List.take_succ_eq_append_getElem h, List.flatMap_append]; simp
theorem p98 (n : Int) (hn : i64 n) (h : List Row) (r : Nat) (xs : List Int) (hr : h[r]? = some (wr xs)) (hl : xs.length ≤ 2 ^ 45) : FSp Tryz.prog GLx 98 [.ref r 0, .v (.int .i64 n)] h [] (h.set r (wr (xs ++ encI n))) := by
  refine fsp_of_awp k98 rfl ?_
  simp [c98, awp, c98r0, c98R, entryD]
  refine ⟨_, _, (p193 n hn).fsp h, ?_⟩
  simp
  exact ⟨_, (p192 (zigI n) (zigI_u64 hn) h r xs hr hl)⟩
theorem p194 (b : ByteArray) (hb : b.size ≤ 2 ^ 40) (h : List Row) (r : Nat) (xs : List Int) (hr : h[r]? = some (wr xs)) (hl : xs.length ≤ 2 ^ 45) : FSp Tryz.prog GLx 194 [.ref r 0, .v (.str b)] h [] (h.set r (wr (xs ++ encRaw (bytesI b)))) := by
  refine fsp_of_awp k194 rfl ?_
  have hbl : (bytesI b).length = b.size := by simp [bytesI]
  have w1 : IntKind.u64.wrap (b.size : Int) = b.size := wrap_u64 (by omega) (by omega)
  simp [c194, awp, c194r0, c194r1, c194R, entryD, w1]
  refine ⟨_, _, (p192 b.size ⟨by omega, by omega⟩ h r xs hr hl), ?_⟩
  have hu := uvar_len b.size
  have hroom : roomy (xs.length + (uvar b.size).length + b.size) 1 = true := by simp [roomy]; omega
  simp [get_set hr, wr, hroom, encRaw, hbl]
  simp [bytesI, Function.comp_def]
theorem p198a (k : Nat) : ∀ (n : Int) (h : List Row) (xs : List Int), 0 ≤ n → n < 128 ^ (k + 1) → n < 18446744073709551616 → xs.length + k ≤ 2 ^ 46 →
    ∃ ys m, uvarF k n = ys ++ [m] ∧ 0 ≤ m ∧ m < 128 ∧
    awp Tryz.prog GLx (.loop c198l0) (fun e s => e = .exit 0 ∧ s = ⟨[(0, .v (.int .u64 m)), (3, .own 5 1 ((xs ++ ys).map (.int .u8))), (5, .v (.bool false))], h⟩) ⟨[(0, .v (.int .u64 n)), (3, .own 5 1 (xs.map (.int .u8)))], h⟩ := by
  induction k with
  | zero =>
    intro n h xs h0 h1 h2 hl
    refine ⟨[], n, rfl, h0, by simpa using h1, ?_⟩
    have h3' : (128 : Int) ^ (0 + 1) = 128 := by decide
    have h3 : ¬ 127 < n := by omega
    refine awp_loop_end ?_
    simp only [c198l0, awp_seq, awp_reg, awp_block, awp_cond, c198r2]
    simp [h3, awp_exit]
  | succ k ih =>
    intro n h xs h0 h1 h2 hl
    by_cases h3 : 127 < n
    · have hd0 : 0 ≤ n / 128 := by omega
      have hd1 : n / 128 < 128 ^ (k + 1) := Int.ediv_lt_of_lt_mul (by decide) (by rw [← Int.pow_succ]; exact h1)
      obtain ⟨ys, m, e1, e2, e3, hw⟩ := ih (n / 128) h (xs ++ [128 + n % 128]) hd0 hd1 (by omega) (by simp; omega)
      refine ⟨(128 + n % 128) :: ys, m, ?_, e2, e3, ?_⟩
      · simp only [uvarF, if_neg (show ¬ n < 128 by omega), e1, List.cons_append]
      · refine awp_loop_one (s1 := ⟨[(0, .v (.int .u64 (n / 128))), (3, .own 5 1 ((xs ++ [128 + n % 128]).map (.int .u8)))], h⟩) ?_ ?_
        · simp only [c198l0, awp_seq, awp_reg, awp_block, awp_cond, c198r2]
          simp [h3, awp_skip]
          have hroom : roomy (xs.length + 1) 1 = true := by simp [roomy]; omega
          have w1 : IntKind.u64.wrap (n / 128) = n / 128 := wrap_u64 (by omega) (by omega)
          have w2 : IntKind.u64.wrap (n % 128) = n % 128 := wrap_u64 (by omega) (by omega)
          have w3 : IntKind.u64.wrap (128 + n % 128) = 128 + n % 128 := wrap_u64 (by omega) (by omega)
          have w4 : IntKind.u8.wrap (128 + n % 128) = 128 + n % 128 := wrap_u8 (by omega) (by omega)
          simp only [awp_reg, c198r3, c198r4]
          simp [ownOf, hroom, Int.tdiv_eq_ediv_of_nonneg h0, Int.tmod_eq_emod_of_nonneg h0, w1, w2, w3, w4]
        · simpa using hw
    · refine ⟨[], n, by simp only [uvarF, if_pos (show n < 128 by omega)]; rfl, h0, by omega, ?_⟩
      refine awp_loop_end ?_
      simp only [c198l0, awp_seq, awp_reg, awp_block, awp_cond, c198r2]
      simp [h3, awp_exit]
theorem p198 (n : Int) (hn : u64 n) (h : List Row) : FSp Tryz.prog GLx 198 [.v (.int .u64 n)] h [.own 5 1 ((uvar n).map (.int .u8))] h := by
  refine fsp_of_awp k198 rfl ?_
  unfold u64 at hn
  have h128 : (128 : Int) ^ (9 + 1) = 1180591620717411303424 := by decide
  obtain ⟨ys, m, e1, e2, e3, hw⟩ := p198a 9 n h [] hn.1 (by omega) hn.2 (by decide)
  have hys : ys.length ≤ 9 := by have := uvarF_len 9 n; rw [e1] at this; simp at this; omega
  simp only [c198, awp_seq, awp_block, awp_reg, c198r0, c198r1, entryD]
  simp
  simp at hw
  refine awp_to hw ?_
  have hroom : roomy (ys.length + 1) 1 = true := by simp [roomy]; omega
  simp only [awp_reg, c198r5]
  simp [hroom, wrap_u8 e2 (show m < 256 by omega), c198R, uvar, e1, awp_ret]
theorem p104 (n : Int) (hn : i64 n) (h : List Row) : FSp Tryz.prog GLx 104 [.v (.int .i64 n)] h [.own 5 1 ((encI n).map (.int .u8))] h := by
  refine fsp_of_awp k104 rfl ?_
  simp [c104, awp, c104r0, c104r1, c104R, entryD]
  refine ⟨_, _, (p199 n hn).fsp h, ?_⟩
  simp
  refine ⟨_, (p198 (zigI n) (zigI_u64 hn) h), ?_⟩
  simp [encI]
theorem p105 (xs : List Int) (hb : xs.length ≤ 2 ^ 45) (h : List Row) : FSp Tryz.prog GLx 105 [.v (nums .u8 xs)] h [.own 5 1 ((encRaw xs).map (.int .u8))] h := by
  refine fsp_of_awp k105 rfl ?_
  have w1 : IntKind.u64.wrap (xs.length : Int) = xs.length := wrap_u64 (by omega) (by omega)
  simp [c105, awp, c105r0, c105r1, c105R, entryD, nums, w1]
  refine ⟨_, _, (p198 xs.length ⟨by omega, by omega⟩ h), ?_⟩
  have hu := uvar_len xs.length
  have hroom : roomy ((uvar xs.length).length + xs.length) 1 = true := by simp [roomy]; omega
  simp [hroom, encRaw]
theorem p107 (l : List Int) (hi : ∀ n ∈ l, i64 n) (hb : l.length ≤ 2 ^ 40) (h : List Row) : FSp Tryz.prog GLx 107 [.v (nums .i64 l)] h [.own 5 1 ((encInts l).map (.int .u8))] h := by
  refine fsp_of_awp k107 rfl ?_
  have w1 : IntKind.u64.wrap (l.length : Int) = l.length := wrap_u64 (by omega) (by omega)
  simp only [c107, awp_seq, awp_block, awp_reg, c107r0, c107r1, c107r2, entryD]
  simp [nums, w1]
  refine ⟨_, _, (p198 l.length ⟨by omega, by omega⟩ h), ?_⟩
  have hu := uvar_len l.length
  simp
  refine awp_loop_nat0 l.length (fun k => ⟨[(0, .v (nums .i64 l)), (3, .own 5 1 ((uvar l.length ++ (l.take k).flatMap encI).map (.int .u8))), (4, .v (.int .i64 k))], h⟩) (by simp [nums]) ?_
  intro k hk
  simp only [c107l0, awp_seq, awp_reg, awp_block, awp_cond, c107r3]
  simp [nums]
  by_cases h1 : k < l.length
  · have hx : l[k]? = some l[k] := List.getElem?_eq_getElem h1
    have hw : IntKind.i64.wrap ((k : Int) + 1) = k + 1 := wrap_i64 (by omega) (by omega)
    rw [if_pos (by omega), awp_skip]
    simp only [awp_reg, c107r4, c107r5]
    simp [hx]
    refine ⟨_, _, (p104 l[k] (hi _ (List.getElem_mem h1)) h), ?_⟩
    have hf := flat_encI_len (l.take k)
    have he := encI_len l[k]
    have ht : (l.take k).length = k := by simp; omega
    have hroom : roomy ((uvar l.length).length + ((l.take k).flatMap encI).length + (encI l[k]).length) 1 = true := by simp [roomy, -List.length_flatMap]; omega
    simp [hroom, h1, hw, -List.length_flatMap]
    rw [flat_take h1]; simp
  · have : k = l.length := by omega
    subst this
    rw [if_neg (by omega), awp_exit]
    simp [awp_reg, awp_ret, c107r6, c107R, encInts]
theorem p117 (xs : List Int) (hb : xs.length ≤ 2 ^ 45) : ∀ h, FSp Tryz.prog GLx 117 [.v (nums .u8 xs)] h [.own 5 1 (xs.map (.int .u8))] h := by
  intro h
  refine fsp_of_awp k117 rfl ?_
  have hroom : roomy xs.length 1 = true := by simp [roomy]; omega
  cases xs with
  | nil => simp [c117, awp, c117r0, c117r1, c117r2, c117r3, c117R, entryD, nums, roomy]
  | cons x xs => simp [c117, awp, c117r0, c117r1, c117r2, c117r3, c117R, entryD, nums] at hroom ⊢; simp [hroom]
theorem p102 (h : List Row) (r : Nat) (xs : List Int) (hr : h[r]? = some (wr xs)) (hl : xs.length ≤ 2 ^ 45) : FSp Tryz.prog GLx 102 [.ref r 0] h [.own 5 1 (xs.map (.int .u8))] h := by
  refine fsp_of_awp k102 rfl ?_
  simp [c102, awp, c102r0, c102r1, c102R, entryD, hr, wr]
  refine ⟨_, (p117 xs hl h), ?_⟩
  simp
theorem p100 (l : List Int) (hi : ∀ n ∈ l, i64 n) (hb : l.length ≤ 2 ^ 40) (h : List Row) (r : Nat) (xs : List Int) (hr : h[r]? = some (wr xs)) (hl : xs.length ≤ 2 ^ 44) : FSp Tryz.prog GLx 100 [.ref r 0, .v (nums .i64 l)] h [] (h.set r (wr (xs ++ encInts l))) := by
  refine fsp_of_awp k100 rfl ?_
  have w1 : IntKind.u64.wrap (l.length : Int) = l.length := wrap_u64 (by omega) (by omega)
  simp only [c100, awp_seq, awp_block, awp_reg, c100r0, c100r1, entryD]
  simp [nums, w1]
  refine ⟨_, _, (p192 l.length ⟨by omega, by omega⟩ h r xs hr (by omega)), ?_⟩
  have hu := uvar_len l.length
  try simp
  refine awp_loop_nat0 l.length (fun k => ⟨[(0, .ref r 0), (11, .v (nums .i64 l)), (12, .v (.int .i64 l.length)), (13, .v (.int .i64 k))], h.set r (wr (xs ++ (uvar l.length ++ (l.take k).flatMap encI)))⟩) (by simp [nums]) ?_
  intro k hk
  simp only [c100l0, awp_seq, awp_reg, awp_block, awp_cond, c100r2]
  simp [nums]
  by_cases h1 : k < l.length
  · have hx : l[k]? = some l[k] := List.getElem?_eq_getElem h1
    have hw : IntKind.i64.wrap ((k : Int) + 1) = k + 1 := wrap_i64 (by omega) (by omega)
    rw [if_pos (by omega), awp_skip]
    simp only [awp_reg, c100r3, c100r4, c100r5]
    simp [hx]
    have hf := flat_encI_len (l.take k)
    have ht : (l.take k).length = k := by simp; omega
    refine ⟨_, _, (p98 l[k] (hi _ (List.getElem_mem h1)) _ r (xs ++ (uvar l.length ++ (l.take k).flatMap encI)) (get_set hr) (by simp only [List.length_append]; omega)), ?_⟩
    simp [h1, hw, flat_take h1]
  · have : k = l.length := by omega
    subst this
    rw [if_neg (by omega), awp_exit]
    simp [c100R, encInts]
end Go.Va

namespace Go.Va
open Go.Proofs
theorem le8_app (l : List Int) (b : Int) : le8 (l ++ [b]) = le8 l + b * 256 ^ l.length := by
  induction l with
  | nil => simp [le8]
  | cons x l ih =>
    have e : ∀ l, le8 (x :: l) = 256 * le8 l + x := fun _ => rfl
    rw [List.cons_append, e, e, ih, List.length_cons, Int.pow_succ, Int.mul_add, Int.mul_comm (256 ^ l.length) 256, ← Int.mul_assoc, ← Int.mul_assoc, Int.mul_comm b 256]
    omega
theorem or_above {a b : Int} {j : Nat} (hj : j < 8) (ha : 0 ≤ a) (ha2 : a < 256 ^ j) (hb : 0 ≤ b) (hb2 : b < 256) :
    IntKind.u64.wrap (((a % 2 ^ IntKind.u64.bits).toNat ||| (IntKind.u64.wrap (b * 2 ^ min (8 * j) IntKind.u64.bits) % 2 ^ IntKind.u64.bits).toNat : Nat) : Int) = a + b * 256 ^ j := by
  have e3 : ((2 : Int) ^ IntKind.u64.bits) = 18446744073709551616 := by decide
  have e4 : min (8 * j) IntKind.u64.bits = 8 * j := by simp [IntKind.bits]; omega
  have e5 : (2 : Int) ^ (8 * j) = 256 ^ j := by rw [Int.pow_mul]; rfl
  have q3 : (256 : Int) ^ j ≤ 256 ^ 7 := ipow_le (by omega)
  have q4 : (256 : Int) ^ 7 = 72057594037927936 := by decide
  have q0 : (0 : Int) < 256 ^ j := Int.pow_pos (by decide)
  rw [e3, e4, e5]
  have hb3 : 0 ≤ b * 256 ^ j := Int.mul_nonneg hb (by omega)
  have hb4 : b * 256 ^ j ≤ 255 * 256 ^ j := Int.mul_le_mul_of_nonneg_right (by omega) (by omega)
  rw [wrap_u64 hb3 (by omega)]
  have m1 : a % 18446744073709551616 = a := by omega
  have m2 : (b * 256 ^ j) % 18446744073709551616 = b * 256 ^ j := by omega
  rw [m1, m2]
  have f1 : (b * 256 ^ j).toNat = b.toNat <<< (8 * j) := by
    rw [Nat.shiftLeft_eq, Nat.pow_mul]
    obtain ⟨n, rfl⟩ := Int.eq_ofNat_of_zero_le hb
    have : ((n : Int) * 256 ^ j) = ((n * 256 ^ j : Nat) : Int) := by rw [Int.natCast_mul, Int.natCast_pow]; rfl
    rw [this, Int.toNat_natCast, Int.toNat_natCast]
  have f2 : a.toNat < 2 ^ (8 * j) := by
    rw [Nat.pow_mul]
    have e6 : ((256 ^ j : Nat) : Int) = 256 ^ j := by rw [Int.natCast_pow]; rfl
    have e7 : (2 ^ 8) ^ j = 256 ^ j := rfl
    rw [e7]
    omega
  rw [f1, Nat.or_comm, ← Nat.shiftLeft_add_eq_or_of_lt f2, ← f1, wrap_u64 (by omega) (by omega)]
  rw [Int.natCast_add]
  omega
theorem bytesI_size (b : ByteArray) : (bytesI b).length = b.size := by simp [bytesI]
theorem bytesI_get {b : ByteArray} {i : Nat} {x : Int} (h : (bytesI b)[i]? = some x) : ∃ c : UInt8, b[i]? = some c ∧ (c.toNat : Int) = x := by
  unfold bytesI at h
  rw [List.getElem?_map, Option.map_eq_some_iff] at h
  obtain ⟨c, h1, h2⟩ := h
  refine ⟨c, ?_, h2⟩
  obtain ⟨h3, h4⟩ := List.getElem?_eq_some_iff.1 h1
  have h5 : i < b.size := by simpa using h3
  rw [getElem?_pos b i h5]
  congr 1
theorem l324a (xs : List Int) (hb : ∀ x ∈ xs, 0 ≤ x ∧ x < 256) (hl : xs.length ≤ 2 ^ 40) (y : D) (h : List Row) (c : Nat) (hc : h[c]? = some (.cells [.v (nums .u8 xs)])) (k : Nat) (hk : 8 * k < xs.length) :
    awp Tryz.prog GLx (.loop c324l1) (fun e s => e = .exit 2 ∧ find s.e 0 = y ∧ find s.e 1 = .ref c 0 ∧ find s.e 3 = .v (.int .i64 (8 * k : Nat)) ∧ find s.e 4 = .v (.int .u64 (le8 ((xs.drop (8 * k)).take 8))) ∧ s.h = h)
      ⟨[(0, y), (1, .ref c 0), (3, .v (.int .i64 (8 * k : Nat))), (4, .v (.int .u64 0)), (5, .v (.int .i64 (8 * k : Nat)))], h⟩ := by
  skip
  refine awp_loop_nat0 (min (8 * k + 8) xs.length - 8 * k) (fun j => ⟨[(0, y), (1, .ref c 0), (3, .v (.int .i64 (8 * k : Nat))), (4, .v (.int .u64 (le8 ((xs.drop (8 * k)).take j)))), (5, .v (.int .i64 (8 * k + j : Nat)))], h⟩) (by simp [le8]) ?_
  intro j hj
  have hw : IntKind.i64.wrap (8 * (k : Int) + 8) = 8 * k + 8 := wrap_i64 (by omega) (by omega)
  simp only [c324l1, awp_seq, awp_reg, awp_block, awp_cond, c324r5]
  try simp [nums] at hc
  simp [nums, hw, hc]
  by_cases h1 : 8 * k + j < min (8 * k + 8) xs.length
  · have hi : 8 * k + j < xs.length := by omega
    obtain ⟨b0, hb0⟩ : ∃ b0, xs[8 * k + j]? = some b0 := ⟨_, List.getElem?_eq_getElem hi⟩
    obtain ⟨hb1, hb2⟩ := hb b0 (List.mem_of_getElem? hb0)
    have hd : (xs.drop (8 * k)).take (j + 1) = (xs.drop (8 * k)).take j ++ [b0] := by
      rw [List.take_add_one]; simp [hb0]
    have ht : ((xs.drop (8 * k)).take j).length = j := by simp only [List.length_take, List.length_drop]; omega
    obtain ⟨q1, q2⟩ := le8_take xs hb (8 * k) j (by omega)
    have w4 : IntKind.u64.wrap b0 = b0 := wrap_u64 (by omega) (by omega)
    have hor := or_above (a := le8 ((xs.drop (8 * k)).take j)) (b := b0) (j := j) (by omega) q1 q2 hb1 hb2
    rw [if_pos (by split <;> omega), awp_skip]
    have w1 : IntKind.i64.wrap (8 * (k : Int) + j - 8 * k) = j := by rw [wrap_i64 (by omega) (by omega)]; omega
    have w2 : IntKind.i64.wrap (8 * (j : Int)) = (8 * j : Nat) := by rw [wrap_i64 (by omega) (by omega)]; rfl
    have w3 : IntKind.i64.wrap (8 * (k : Int) + j + 1) = 8 * k + j + 1 := wrap_i64 (by omega) (by omega)
    have x1 : (8 * (k : Int) + (j : Int)).toNat = 8 * k + j := by omega
    have x2 : 0 ≤ 8 * (k : Int) + (j : Int) := by omega
    skip
    simp only [awp_reg, c324r6, c324r7]
    have x3 : (8 * (j : Int)).toNat = 8 * j := by omega
    simp [hc, hb0, x1, x2, w1, w2, w3, w4, hd, le8_app, ht, x3]
    refine ⟨by omega, ?_⟩
    simp [hor, w3]
    try omega
  · have hj2 : j = min (8 * k + 8) xs.length - 8 * k := by omega
    have e9 : (xs.drop (8 * k)).take j = (xs.drop (8 * k)).take 8 := by
      rcases Nat.lt_or_ge (xs.length - 8 * k) 8 with h8 | h8
      · rw [List.take_of_length_le (by simp; omega), List.take_of_length_le (by simp; omega)]
      · rw [show j = 8 by omega]
    rw [if_neg (by split <;> omega), awp_exit]
    simp [e9]
theorem p324 (xs : List Int) (hb : ∀ x ∈ xs, 0 ≤ x ∧ x < 256) (hl : xs.length ≤ 2 ^ 40) (r c : Nat) (hs : Nat → List Row) (hc : ∀ k, (hs k)[c]? = some (.cells [.v (nums .u8 xs)]))
    (hy : ∀ k w, (wordsI xs)[k]? = some w → YSp Tryz.prog GLx r [.v (.int .u64 w)] (hs k) true (hs (k + 1))) :
    FSp Tryz.prog GLx 324 [.yld r, .ref c 0] (hs 0) [] (hs (wordsI xs).length) := by
  skip
  refine fsp_of_awp k324 rfl ?_
  have hlen : (wordsI xs).length = (xs.length + 7) / 8 := by simp [wordsI]
  simp only [c324, awp_seq, awp_reg, awp_block, c324r0, entryD]
  simp
  refine awp_loop_nat0 (wordsI xs).length (fun k => ⟨[(0, .yld r), (1, .ref c 0), (3, .v (.int .i64 (8 * k : Nat)))], hs k⟩) (by simp) ?_
  intro k hk
  simp only [c324l0, awp_seq, awp_reg, awp_block, awp_cond, c324r1]
  have hc' := hc k
  try simp [nums] at hc'
  simp [nums, hc']
  by_cases h1 : 8 * k < xs.length
  · rw [if_pos (by omega), awp_skip]
    simp only [awp_reg, c324r3, c324r4]
    simp
    refine awp_mono _ ?_ (l324a xs hb hl (.yld r) (hs k) c (hc k) k h1)
    rintro e ⟨se, sh⟩ ⟨rfl, f0, f1, f3, f4, rfl⟩
    have hk2 : k < (wordsI xs).length := by omega
    have hw : (wordsI xs)[k]? = some (le8 ((xs.drop (8 * k)).take 8)) := by
      rw [List.getElem?_eq_getElem hk2]; simp [wordsI]
    have hw3 : IntKind.i64.wrap (8 * (k : Int) + 8) = 8 * k + 8 := wrap_i64 (by omega) (by omega)
    simp only [awp_reg, c324r8, c324r2]
    simp [f0, f1, f3, f4, awp_cond, -Bool.exists_bool]
    refine ⟨_, _, hy k _ hw, ?_⟩
    simp [awp_cond, awp_skip, awp_reg, c324r2, hw3, hk2, f0, f1, f3, f4]
    omega
  · rw [if_neg (by omega), awp_exit]
    have hk2 : k = (wordsI xs).length := by omega
    simp [c324R, ← hk2]
theorem l279a (b : ByteArray) (hb : ∀ x ∈ (bytesI b), 0 ≤ x ∧ x < 256) (hl : (bytesI b).length ≤ 2 ^ 40) (y : D) (h : List Row) (c : Nat) (hc : h[c]? = some (.cells [.v (.str b)])) (k : Nat) (hk : 8 * k < (bytesI b).length) :
    awp Tryz.prog GLx (.loop c279l1) (fun e s => e = .exit 2 ∧ find s.e 0 = y ∧ find s.e 1 = .ref c 0 ∧ find s.e 3 = .v (.int .i64 (8 * k : Nat)) ∧ find s.e 4 = .v (.int .u64 (le8 (((bytesI b).drop (8 * k)).take 8))) ∧ s.h = h)
      ⟨[(0, y), (1, .ref c 0), (3, .v (.int .i64 (8 * k : Nat))), (4, .v (.int .u64 0)), (5, .v (.int .i64 (8 * k : Nat)))], h⟩ := by
  have hbl : (bytesI b).length = b.size := by simp [bytesI]
  refine awp_loop_nat0 (min (8 * k + 8) (bytesI b).length - 8 * k) (fun j => ⟨[(0, y), (1, .ref c 0), (3, .v (.int .i64 (8 * k : Nat))), (4, .v (.int .u64 (le8 (((bytesI b).drop (8 * k)).take j)))), (5, .v (.int .i64 (8 * k + j : Nat)))], h⟩) (by simp [le8]) ?_
  intro j hj
  have hw : IntKind.i64.wrap (8 * (k : Int) + 8) = 8 * k + 8 := wrap_i64 (by omega) (by omega)
  simp only [c279l1, awp_seq, awp_reg, awp_block, awp_cond, c279r5]
  try simp [nums] at hc
  simp [nums, hw, hc]
  by_cases h1 : 8 * k + j < min (8 * k + 8) (bytesI b).length
  · have hi : 8 * k + j < (bytesI b).length := by omega
    obtain ⟨b0, hb0⟩ : ∃ b0, (bytesI b)[8 * k + j]? = some b0 := ⟨_, List.getElem?_eq_getElem hi⟩
    obtain ⟨hb1, hb2⟩ := hb b0 (List.mem_of_getElem? hb0)
    have hd : ((bytesI b).drop (8 * k)).take (j + 1) = ((bytesI b).drop (8 * k)).take j ++ [b0] := by
      rw [List.take_add_one]; simp [hb0]
    have ht : (((bytesI b).drop (8 * k)).take j).length = j := by simp only [List.length_take, List.length_drop]; omega
    obtain ⟨q1, q2⟩ := le8_take (bytesI b) hb (8 * k) j (by omega)
    have w4 : IntKind.u64.wrap b0 = b0 := wrap_u64 (by omega) (by omega)
    have hor := or_above (a := le8 (((bytesI b).drop (8 * k)).take j)) (b := b0) (j := j) (by omega) q1 q2 hb1 hb2
    rw [if_pos (by split <;> omega), awp_skip]
    have w1 : IntKind.i64.wrap (8 * (k : Int) + j - 8 * k) = j := by rw [wrap_i64 (by omega) (by omega)]; omega
    have w2 : IntKind.i64.wrap (8 * (j : Int)) = (8 * j : Nat) := by rw [wrap_i64 (by omega) (by omega)]; rfl
    have w3 : IntKind.i64.wrap (8 * (k : Int) + j + 1) = 8 * k + j + 1 := wrap_i64 (by omega) (by omega)
    have x1 : (8 * (k : Int) + (j : Int)).toNat = 8 * k + j := by omega
    have x2 : 0 ≤ 8 * (k : Int) + (j : Int) := by omega
    obtain ⟨c1, hc1, hc2⟩ : ∃ c : UInt8, b[8 * k + j]? = some c ∧ (c.toNat : Int) = b0 := bytesI_get hb0
    simp only [awp_reg, c279r6, c279r7]
    have x3 : (8 * (j : Int)).toNat = 8 * j := by omega
    simp [hc, hb0, x1, x2, w1, w2, w3, w4, hd, le8_app, ht, x3, hc1, hc2, bytesI_size]
    refine ⟨by omega, ?_⟩
    simp [hor, w3]
    try omega
  · have hj2 : j = min (8 * k + 8) (bytesI b).length - 8 * k := by omega
    have e9 : ((bytesI b).drop (8 * k)).take j = ((bytesI b).drop (8 * k)).take 8 := by
      rcases Nat.lt_or_ge ((bytesI b).length - 8 * k) 8 with h8 | h8
      · rw [List.take_of_length_le (by simp; omega), List.take_of_length_le (by simp; omega)]
      · rw [show j = 8 by omega]
    rw [if_neg (by split <;> omega), awp_exit]
    simp [e9]
theorem p279 (b : ByteArray) (hb : ∀ x ∈ (bytesI b), 0 ≤ x ∧ x < 256) (hl : (bytesI b).length ≤ 2 ^ 40) (r c : Nat) (hs : Nat → List Row) (hc : ∀ k, (hs k)[c]? = some (.cells [.v (.str b)]))
    (hy : ∀ k w, (wordsI (bytesI b))[k]? = some w → YSp Tryz.prog GLx r [.v (.int .u64 w)] (hs k) true (hs (k + 1))) :
    FSp Tryz.prog GLx 279 [.yld r, .ref c 0] (hs 0) [] (hs (wordsI (bytesI b)).length) := by
  have hbl : (bytesI b).length = b.size := by simp [bytesI]
  refine fsp_of_awp k279 rfl ?_
  have hlen : (wordsI (bytesI b)).length = ((bytesI b).length + 7) / 8 := by simp [wordsI]
  simp only [c279, awp_seq, awp_reg, awp_block, c279r0, entryD]
  simp
  refine awp_loop_nat0 (wordsI (bytesI b)).length (fun k => ⟨[(0, .yld r), (1, .ref c 0), (3, .v (.int .i64 (8 * k : Nat)))], hs k⟩) (by simp) ?_
  intro k hk
  simp only [c279l0, awp_seq, awp_reg, awp_block, awp_cond, c279r1]
  have hc' := hc k
  try simp [nums] at hc'
  simp [nums, hc']
  by_cases h1 : 8 * k < (bytesI b).length
  · rw [if_pos (by omega), awp_skip]
    simp only [awp_reg, c279r3, c279r4]
    simp
    refine awp_mono _ ?_ (l279a b hb hl (.yld r) (hs k) c (hc k) k h1)
    rintro e ⟨se, sh⟩ ⟨rfl, f0, f1, f3, f4, rfl⟩
    have hk2 : k < (wordsI (bytesI b)).length := by omega
    have hw : (wordsI (bytesI b))[k]? = some (le8 (((bytesI b).drop (8 * k)).take 8)) := by
      rw [List.getElem?_eq_getElem hk2]; simp [wordsI]
    have hw3 : IntKind.i64.wrap (8 * (k : Int) + 8) = 8 * k + 8 := wrap_i64 (by omega) (by omega)
    simp only [awp_reg, c279r8, c279r2]
    simp [f0, f1, f3, f4, awp_cond, -Bool.exists_bool]
    refine ⟨_, _, hy k _ hw, ?_⟩
    simp [awp_cond, awp_skip, awp_reg, c279r2, hw3, hk2, f0, f1, f3, f4]
    omega
  · rw [if_neg (by omega), awp_exit]
    have hk2 : k = (wordsI (bytesI b)).length := by omega
    simp [c279R, ← hk2]
end Go.Va

namespace Go.Va
open Go.Proofs
theorem p189 (b : ByteArray) (h : List Row) : FSp Tryz.prog GLx 189 [.v (.str b)] h [.func 279 [.ref h.length 0]] (h ++ [.cells [.v (.str b)]]) := by
  refine fsp_of_awp k189 rfl ?_
  simp [c189, awp, c189r0, c189r1, c189R, entryD]
theorem p296 (xs : List Int) (h : List Row) : FSp Tryz.prog GLx 296 [.v (nums .u8 xs)] h [.func 324 [.ref h.length 0]] (h ++ [.cells [.v (nums .u8 xs)]]) := by
  refine fsp_of_awp k296 rfl ?_
  simp [c296, awp, c296r0, c296r1, c296R, entryD, nums]
theorem bytesI_range (b : ByteArray) : ∀ x ∈ bytesI b, 0 ≤ x ∧ x < 256 := by
  intro x hx
  simp only [bytesI, List.mem_map] at hx
  obtain ⟨c, _, rfl⟩ := hx
  have := c.toNat_lt; omega
theorem l96a (e0 : Env) (h0 : List Row) (hf : find e0 5 = .ref h0.length 0) (x : Row) (w s : Int) :
    YSp Tryz.prog GLx (h0.length + 2) [.v (.int .u64 w)] (h0 ++ [.cells [.v (.int .u64 s)], x, recRow Tryz.prog GLx .ready e0 [11] c96a0 c96b0]) true (h0 ++ [.cells [.v (.int .u64 (mixI s w))], x, recRow Tryz.prog GLx .ready e0 [11] c96a0 c96b0]) := by
  refine ysp_of_awp (e0 := e0) (ps := [11]) (asg := c96a0) (body := c96b0) (by simp) rfl ?_
  simp only [setPs, c96a0, c96b0, awp_reg, awp_block, c96r3, c96r4]
  simp [hf]
  refine ⟨_, _, (p190 s w).fsp _, ?_⟩
  simp [roundEnd, putL]
theorem awp_range_of {P : Program} {GL : Globals} {q : Opd} {ps : List Nat} {asg body : AC} {Q : AExit → St → Prop} {s : St} (fid : Nat) (caps rets : List D) (h1 h' : List Row) (tag : Tag)
    (hq : fnOf (q.ev s.e) = some (fid, caps)) (hh : s.h ++ [recRow P GL .ready (cpE s.e) ps asg body] = h1) (hf : FSp P GL fid (.yld s.h.length :: caps) h1 rets h')
    (hr : h'[s.h.length]? = some (recRow P GL tag (cpE s.e) ps asg body)) (he : rangeEnd Q ⟨s.e, h'.set s.h.length .dead⟩ tag) : awp P GL (.rangeF q ps asg body) Q s := by
  rw [awp_rangeF]
  exact ⟨fid, caps, rets, h', tag, hq, hh ▸ hf, hr, he⟩
theorem fold_take {α β : Type} (f : β → α → β) (s0 : β) {l : List α} {k : Nat} {x : α} (hx : l[k]? = some x) : (l.take (k + 1)).foldl f s0 = f ((l.take k).foldl f s0) x := by
  obtain ⟨h1, h2⟩ := List.getElem?_eq_some_iff.1 hx
  rw [List.take_succ_eq_append_getElem h1, List.foldl_append, h2]; rfl
theorem l96b (l : List Int) (hl : l.length ≤ 2 ^ 40) (a : D) (s0 : Int) (h : List Row) (xs : List Row) :
    awp Tryz.prog GLx (.loop c96l1) (fun e s => e = .exit 2 ∧ find s.e 5 = .ref h.length 0 ∧ s.h = h ++ .cells [.v (.int .u64 (l.foldl (fun s n => mixI s (IntKind.u64.wrap n)) s0))] :: xs)
      ⟨[(5, .ref h.length 0), (24, .v (nums .i64 l)), (25, .v (.int .i64 l.length)), (26, .v (.int .i64 0))], h ++ .cells [.v (.int .u64 s0)] :: xs⟩ := by
  refine awp_loop_nat0 l.length (fun k => ⟨[(5, .ref h.length 0), (24, .v (nums .i64 l)), (25, .v (.int .i64 l.length)), (26, .v (.int .i64 k))], h ++ .cells [.v (.int .u64 ((l.take k).foldl (fun s n => mixI s (IntKind.u64.wrap n)) s0))] :: xs⟩) (by simp) ?_
  intro k hk
  simp only [c96l1, awp_seq, awp_reg, awp_block, awp_cond, c96r7]
  simp [nums]
  by_cases h1 : k < l.length
  · have hx : l[k]? = some l[k] := List.getElem?_eq_getElem h1
    have hw : IntKind.i64.wrap ((k : Int) + 1) = k + 1 := wrap_i64 (by omega) (by omega)
    rw [if_pos (by omega), awp_skip]
    simp only [awp_reg, c96r8, c96r9, c96r10]
    simp [hx]
    refine ⟨_, _, (p190 ((l.take k).foldl (fun s n => mixI s (IntKind.u64.wrap n)) s0) (IntKind.u64.wrap l[k])).fsp _, ?_⟩
    simp [h1, hw, putL, fold_take _ _ hx]
  · have : k = l.length := by omega
    subst this
    rw [if_neg (by omega), awp_exit]
    simp
theorem p96 (b : ByteArray) (l : List Int) (hb : b.size ≤ 2 ^ 39) (hl : l.length ≤ 2 ^ 40) : PSp Tryz.prog GLx 96 [.str b, nums .i64 l] [.int .u64 (sumI (bytesI b) l)] := by
  refine psp_of_awp k96 rfl ?_
  have hbl : (bytesI b).length = b.size := by simp [bytesI]
  simp only [c96, awp_seq, awp_reg, awp_block, c96r0, c96r1, c96r2, entry]
  simp [putL]
  refine ⟨_, _, p189 b _, ?_⟩
  simp
  refine awp_range_of 279 [.ref 1 0] [] _ _ .ready rfl rfl (p279 b (bytesI_range b) (by omega) 2 1 (fun k => [.cells [.v (.int .u64 (((wordsI (bytesI b)).take k).foldl mixI 0))], .cells [.v (.str b)],
    recRow Tryz.prog GLx .ready (cpE [(0, .v (.str b)), (1, .v (nums .i64 l)), (5, .ref 0 0), (10, .func 279 [.ref 1 0])]) [11] c96a0 c96b0]) (by simp) ?_) rfl ?_
  · intro k w hw
    have := l96a (cpE [(0, .v (.str b)), (1, .v (nums .i64 l)), (5, .ref 0 0), (10, .func 279 [.ref 1 0])]) [] rfl (.cells [.v (.str b)]) w (((wordsI (bytesI b)).take k).foldl mixI 0)
    rw [fold_take _ _ hw]
    exact this
  · have w1 : IntKind.u64.wrap (b.size : Int) = b.size := wrap_u64 (by omega) (by omega)
    have w2 : IntKind.u64.wrap (l.length : Int) = l.length := wrap_u64 (by omega) (by omega)
    simp only [rangeEnd, c96r5]
    simp [w1]
    refine ⟨_, _, (p190 ((wordsI (bytesI b)).foldl mixI 0) b.size).fsp _, ?_⟩
    simp [nums, w2]
    refine ⟨_, _, (p190 (mixI ((wordsI (bytesI b)).foldl mixI 0) b.size) l.length).fsp _, ?_⟩
    simp [c96r6, putL]
    refine awp_mono _ ?_ (l96b l hl .any (mixI (mixI ((wordsI (bytesI b)).foldl mixI 0) b.size) l.length) [] _)
    rintro e ⟨se, sh⟩ ⟨rfl, f5, rfl⟩
    simp at f5
    simp [c96r11, f5]
    refine ⟨_, _, (p190 _ 0).fsp _, ?_⟩
    simp [awp_ret, c96R, sumI, hbl]
end Go.Va

namespace Go.Va
open Go.Proofs
def hashI (label bs : List Int) : Int := sumI label ((wordsI bs).map IntKind.i64.wrap ++ [(bs.length : Int)])
theorem l234a (e0 : Env) (hf : find e0 5 = .ref 0 0) (x : Row) (w : Int) (ws : List Int) (hl : ws.length ≤ 2 ^ 40) :
    YSp Tryz.prog GLx 2 [.v (.int .u64 w)] [.cells [.own 3 1 (ws.map (.int .i64))], x, recRow Tryz.prog GLx .ready e0 [9] c234a0 c234b0] true [.cells [.own 3 1 ((ws ++ [IntKind.i64.wrap w]).map (.int .i64))], x, recRow Tryz.prog GLx .ready e0 [9] c234a0 c234b0] := by
  refine ysp_of_awp (e0 := e0) (ps := [9]) (asg := c234a0) (body := c234b0) (by simp) rfl ?_
  have hroom : roomy (ws.length + 1) 8 = true := by simp [roomy]; omega
  simp only [setPs, c234a0, c234b0, awp_reg, awp_block, c234r3, c234r4]
  simp [hf, hroom, putL, ownOf, roundEnd]
theorem p234 (b : ByteArray) (xs : List Int) (hx : ∀ x ∈ xs, 0 ≤ x ∧ x < 256) (hb : b.size ≤ 2 ^ 39) (hl : xs.length ≤ 2 ^ 39) : PSp Tryz.prog GLx 234 [.str b, nums .u8 xs] [.int .u64 (hashI (bytesI b) xs)] := by
  refine psp_of_awp k234 rfl ?_
  have hlw : (wordsI xs).length = (xs.length + 7) / 8 := by simp [wordsI]
  simp only [c234, awp_seq, awp_reg, awp_block, c234r0, c234r1, c234r2, entry]
  simp [putL]
  refine ⟨_, _, p296 xs _, ?_⟩
  simp
  refine awp_range_of 324 [.ref 1 0] [] _ _ .ready rfl rfl (p324 xs hx (by omega) 2 1 (fun k => [.cells [.own 3 1 ((((wordsI xs).take k).map IntKind.i64.wrap).map (.int .i64))], .cells [.v (nums .u8 xs)],
    recRow Tryz.prog GLx .ready (cpE [(0, .v (.str b)), (1, .v (nums .u8 xs)), (5, .ref 0 0), (8, .func 324 [.ref 1 0])]) [9] c234a0 c234b0]) (by simp) ?_) rfl ?_
  · intro k w hw
    have hk := (List.getElem?_eq_some_iff.1 hw).1
    have := l234a (cpE [(0, .v (.str b)), (1, .v (nums .u8 xs)), (5, .ref 0 0), (8, .func 324 [.ref 1 0])]) rfl (.cells [.v (nums .u8 xs)]) w (((wordsI xs).take k).map IntKind.i64.wrap) (by simp; omega)
    have e : ((wordsI xs).take (k + 1)).map IntKind.i64.wrap = ((wordsI xs).take k).map IntKind.i64.wrap ++ [IntKind.i64.wrap w] := by
      rw [List.take_add_one, hw]; simp
    rw [e]
    exact this
  · simp only [rangeEnd, c234r5]
    have hroom : roomy ((wordsI xs).length + 1) 8 = true := by simp [roomy]; omega
    simp [nums, hroom]
    have hp := p96 b ((wordsI xs).map IntKind.i64.wrap ++ [(xs.length : Int)]) hb (by simp; omega)
    have hp2 := hp.fsp
    simp [nums] at hp2
    refine ⟨_, _, hp2 _, ?_⟩
    simp [awp_ret, c234R, hashI]
theorem p236 (b : ByteArray) (xs : List Int) (hx : ∀ x ∈ xs, 0 ≤ x ∧ x < 256) (hb : b.size ≤ 2 ^ 39) (hl : xs.length ≤ 2 ^ 39) : PSp Tryz.prog GLx 236 [.str b, nums .u8 xs] [.int .u64 (hashI (bytesI b) xs)] := by
  refine psp_of_awp k236 rfl ?_
  have hlw : (wordsI xs).length = (xs.length + 7) / 8 := by simp [wordsI]
  simp only [c236, awp_seq, awp_reg, awp_block, c236r0, c236r1, c236r2, c236r3, entry]
  simp
  refine ⟨_, _, (p174 xs hx (by omega)).fsp _, ?_⟩
  simp
  refine awp_loop_nat0 (wordsI xs).length (fun k => ⟨[(0, .v (.str b)), (1, .v (nums .u8 xs)), (5, .v (nums .u64 (wordsI xs))), (6, .own 3 1 ((((wordsI xs).take k).map IntKind.i64.wrap).map (.int .i64))), (7, .v (.int .i64 k))], []⟩) (by simp) ?_
  intro k hk
  simp only [c236l0, awp_seq, awp_reg, awp_block, awp_cond, c236r4]
  simp [nums]
  by_cases h1 : k < (wordsI xs).length
  · obtain ⟨w, hw⟩ : ∃ w, (wordsI xs)[k]? = some w := ⟨_, List.getElem?_eq_getElem h1⟩
    have hw2 : IntKind.i64.wrap ((k : Int) + 1) = k + 1 := wrap_i64 (by omega) (by omega)
    have e : ((wordsI xs).take (k + 1)).map IntKind.i64.wrap = ((wordsI xs).take k).map IntKind.i64.wrap ++ [IntKind.i64.wrap w] := by
      rw [List.take_add_one, hw]; simp
    have hroom : roomy (min k (wordsI xs).length + 1) 8 = true := by simp [roomy]; omega
    rw [if_pos (by omega), awp_skip]
    simp only [awp_reg, c236r5, c236r6]
    have hw3 := (List.getElem?_eq_some_iff.1 hw).2
    simp [hw, hroom, ownOf, h1, hw2, hw3]
    rw [List.take_add_one, List.getElem?_map, hw]; simp [hw3]
  · have : k = (wordsI xs).length := by omega
    subst this
    rw [if_neg (by omega), awp_exit]
    have hroom : roomy ((wordsI xs).length + 1) 8 = true := by simp [roomy]; omega
    have hp := p84 b ((wordsI xs).map IntKind.i64.wrap ++ [(xs.length : Int)]) hb (by simp; omega)
    have hp2 := hp.fsp
    simp [nums] at hp2
    have e6 : List.take (wordsI xs).length (List.map (V.int IntKind.i64 ∘ IntKind.i64.wrap) (wordsI xs)) = List.map (V.int IntKind.i64 ∘ IntKind.i64.wrap) (wordsI xs) := List.take_of_length_le (by simp)
    simp [c236r7, awp_reg, hroom, e6]
    refine ⟨_, _, hp2 _, ?_⟩
    simp [awp_ret, c236R, hashI]
end Go.Va

namespace Go.Va
open Go.Proofs
section
variable {P : Program} {GL : Globals}
theorem awp_loop_inv {c : AC} {Q : AExit → St → Prop} (n : Nat) (S : Nat → St) (I : Nat → Prop) {s : St} (hs : s = S 0) (h0 : I 0)
    (h : ∀ k, k ≤ n → I k → awp P GL c (fun e s' => match e with | .normal => k < n ∧ I (k + 1) ∧ s' = S (k + 1) | e => Q e s') (S k)) : awp P GL (.loop c) Q s := by
  subst hs
  refine ⟨fun m s => ∃ k, k ≤ n ∧ m = n - k ∧ I k ∧ s = S k, ⟨n, 0, Nat.zero_le _, rfl, h0, rfl⟩, ?_⟩
  rintro m s ⟨k, hk, rfl, hi, rfl⟩
  refine awp_mono c ?_ (h k hk hi)
  intro e s' h
  cases e with
  | normal => obtain ⟨hlt, hi', rfl⟩ := h; exact ⟨n - (k + 1), by omega, k + 1, hlt, rfl, hi', rfl⟩
  | exit i => exact h
  | ret => exact h
end
def okR (n d : Int) : Bool := decide (1 ≤ d ∧ d ≤ 1048576 ∧ n ≤ 1099511627776 ∧ -1099511627776 ≤ n ∧ Int.gcd n d = 1)
def ratV (n d : Int) : V := .agg [.int .i64 n, .int .i64 d]
theorem l350 (m : Nat) : ∀ (a b : Nat), b ≤ m → a < 2 ^ 64 → b < 2 ^ 64 →
    awp Tryz.prog GLx (.loop c350l0) (fun e s => e = .exit 0 ∧ find s.e 0 = .v (.int .u64 (Nat.gcd a b))) ⟨[(0, .v (.int .u64 a)), (1, .v (.int .u64 b))], []⟩ := by
  induction m with
  | zero =>
    intro a b hb h1 h2
    have : b = 0 := by omega
    subst this
    refine awp_loop_end ?_
    simp only [c350l0, awp_seq, awp_reg, awp_block, awp_cond, c350r1]
    simp [awp_exit]
  | succ m ih =>
    intro a b hb h1 h2
    by_cases h0 : b = 0
    · exact ih a b (by omega) h1 h2
    · have hlt := Nat.mod_lt a (show 0 < b by omega)
      have hih := ih b (a % b) (by omega) h2 (by omega)
      have e : Nat.gcd b (a % b) = Nat.gcd a b := by rw [Nat.gcd_comm, ← Nat.gcd_rec, Nat.gcd_comm]
      rw [e] at hih
      refine awp_loop_one ?_ hih
      simp only [c350l0, awp_seq, awp_reg, awp_block, awp_cond, c350r1]
      have w1 : IntKind.u64.wrap ((a : Int) % b) = ((a % b : Nat) : Int) := by rw [wrap_u64 (by omega) (by omega)]; rfl
      have h3 : 0 < b := by omega
      simp [h3, awp_skip, awp_regD, c350r2, Int.tmod_eq_emod_of_nonneg, w1, h0]
theorem p350 (a b : Nat) (h1 : a < 2 ^ 64) (h2 : b < 2 ^ 64) : PSp Tryz.prog GLx 350 [.int .u64 a, .int .u64 b] [.int .u64 (Nat.gcd a b)] := by
  refine psp_of_awp k350 rfl ?_
  simp only [c350, awp_seq, awp_block, awp_reg, c350r0, entry]
  simp
  refine awp_mono _ ?_ (l350 b a b (Nat.le_refl _) h1 h2)
  rintro e s ⟨rfl, h⟩
  simp [c350r3, h, awp_ret, c350R]
theorem p330 (n : Int) (hn : i64 n) : PSp Tryz.prog GLx 330 [.int .i64 n] [.int .u64 n.natAbs] := by
  refine psp_of_awp k330 rfl ?_
  unfold i64 at hn
  by_cases h0 : n < 0
  · simp [c330, awp, c330r0, c330r1, c330r2, c330R, entry, h0]
    simp only [wrap_u64_mod]
    omega
  · simp [c330, awp, c330r0, c330r1, c330r3, c330R, entry, h0]
    simp only [wrap_u64_mod]
    omega
def buildE (neg : Bool) (n d : Nat) : List V :=
  if n / Nat.gcd n d > 1099511627776 ∨ d / Nat.gcd n d > 1048576 then [ratV 0 0, .int .i64 5]
  else [ratV (if neg then -((n / Nat.gcd n d : Nat) : Int) else ((n / Nat.gcd n d : Nat) : Int)) ((d / Nat.gcd n d : Nat) : Int), .int .i64 0]
theorem p329 (neg : Bool) (n d : Nat) (h1 : n < 2 ^ 64) (h2 : d < 2 ^ 64) (hd : 0 < d) : PSp Tryz.prog GLx 329 [.bool neg, .int .u64 n, .int .u64 d] (buildE neg n d) := by
  refine psp_of_awp k329 rfl ?_
  have hg : 0 < Nat.gcd n d := Nat.gcd_pos_of_pos_right _ hd
  have hn1 := Nat.div_le_self n (Nat.gcd n d)
  have hd1 := Nat.div_le_self d (Nat.gcd n d)
  have hp := p350 n d h1 h2
  unfold buildE
  generalize Nat.gcd n d = g at *
  have qa : (n : Int) / g = ((n / g : Nat) : Int) := rfl
  have qb : (d : Int) / g = ((d / g : Nat) : Int) := rfl
  generalize n / g = a at *
  generalize d / g = b at *
  have w1 : IntKind.u64.wrap (a : Int) = a := wrap_u64 (by omega) (by omega)
  have w2 : IntKind.u64.wrap (b : Int) = b := wrap_u64 (by omega) (by omega)
  have hg0 : g ≠ 0 := by omega
  simp only [c329, awp_seq, awp_reg, awp_regD, awp_block, awp_cond, c329r0, c329r1, c329r2, c329r3, entry]
  simp
  refine ⟨_, _, hp.fsp _, ?_⟩
  simp [Int.tdiv_eq_ediv_of_nonneg, qa, qb, w1, w2, hg0]
  have w3 : IntKind.i64.wrap (a : Int) = a ∨ 1099511627776 < a := by
    by_cases h : a ≤ 1099511627776
    · exact .inl (wrap_i64 (by omega) (by omega))
    · exact .inr (by omega)
  by_cases h3 : 1099511627776 < (a : Int)
  · have h3' : 1099511627776 < a := by omega
    simp [h3, h3', awp_seq, awp_reg, awp_ret, c329r4, c329R, putL, ratV]
  · have h3' : ¬ 1099511627776 < a := by omega
    by_cases h4 : 1048576 < (b : Int)
    · have h4' : 1048576 < b := by omega
      simp [h3, h3', h4, h4', awp_seq, awp_reg, awp_ret, c329r4, c329R, putL, ratV]
    · have h4' : ¬ 1048576 < b := by omega
      have w5 : IntKind.i64.wrap (a : Int) = a := wrap_i64 (by omega) (by omega)
      have w6 : IntKind.i64.wrap (b : Int) = b := wrap_i64 (by omega) (by omega)
      have w7 : IntKind.i64.wrap (-(a : Int)) = -a := wrap_i64 (by omega) (by omega)
      cases neg <;> simp [h3, h3', h4, h4', awp_seq, awp_reg, awp_cond, awp_skip, awp_ret, c329r5, c329r6, c329r7, c329r8, c329R, putL, ratV, w5, w6, w7]
theorem buildE_ok (n d : Int) (hd : 1 ≤ d) (h1 : i64 n) (h2 : i64 d) : (buildE (decide (n < 0) != decide (d < 0)) n.natAbs d.natAbs = [ratV n d, .int .i64 0]) ↔ okR n d = true := by
  unfold buildE okR
  unfold i64 at h1 h2
  have e : Int.gcd n d = Nat.gcd n.natAbs d.natAbs := rfl
  have hg : 0 < Nat.gcd n.natAbs d.natAbs := Nat.gcd_pos_of_pos_right _ (by omega)
  have hdn : decide (d < 0) = false := by simp; omega
  simp only [hdn]
  rw [e]
  constructor
  · intro h
    split at h
    · simp [ratV] at h
    · rename_i hc
      simp [ratV] at h
      have hb : d.natAbs / Nat.gcd n.natAbs d.natAbs = d.natAbs := by omega
      have hg1 : Nat.gcd n.natAbs d.natAbs = 1 := by
        rcases Nat.lt_or_ge 1 (Nat.gcd n.natAbs d.natAbs) with h3 | h3
        · have := Nat.div_lt_self (show 0 < d.natAbs by omega) h3; omega
        · omega
      rw [hg1] at hc
      simp [hg1] at hc ⊢
      omega
  · intro h
    simp at h
    obtain ⟨h3, h4, h5, h6, h7⟩ := h
    rw [h7]
    rw [if_neg (by simp; omega)]
    simp [ratV]
    constructor
    · split <;> omega
    · omega
theorem buildE_two (neg : Bool) (n d : Nat) : buildE neg n d = [ratV 0 0, .int .i64 5] ∨ ∃ a b, buildE neg n d = [ratV a b, .int .i64 0] := by
  unfold buildE
  split
  · exact .inl rfl
  · exact .inr ⟨_, _, rfl⟩
theorem p306 (n d : Int) (hd : d ≠ 0) (h1 : i64 n) (h2 : i64 d) : PSp Tryz.prog GLx 306 [.int .i64 n, .int .i64 d] (buildE (decide (n < 0) != decide (d < 0)) n.natAbs d.natAbs) := by
  refine psp_of_awp k306 rfl ?_
  simp only [c306, awp_seq, awp_reg, awp_block, awp_cond, c306r0, c306r1, entry]
  simp [hd, awp_skip, awp_reg, c306r3]
  refine ⟨_, _, (p330 n h1).fsp _, ?_⟩
  simp
  refine ⟨_, _, (p330 d h2).fsp _, ?_⟩
  simp
  have hx : (decide (n < 0) != decide (d < 0)) = !(decide (n < 0) == decide (d < 0)) := rfl
  try rw [← hx]
  unfold i64 at h1 h2
  refine ⟨_, _, (p329 _ n.natAbs d.natAbs (by omega) (by omega) (by omega)).fsp _, ?_⟩
  generalize (decide (n < 0) != decide (d < 0)) = ng
  obtain h | ⟨a, b, h⟩ := buildE_two ng n.natAbs d.natAbs <;> rw [h] <;> simp [ratV, awp_ret, c306R, putL]
theorem p248 (n d : Int) (h1 : i64 n) (h2 : i64 d) : PSp Tryz.prog GLx 248 [ratV n d] [.int .i64 (if okR n d then 0 else 1)] := by
  refine psp_of_awp k248 rfl ?_
  simp only [c248, awp_seq, awp_reg, awp_block, awp_cond, c248r0, c248r1, entry]
  simp [ratV]
  by_cases hd : d < 1
  · have : okR n d = false := by unfold okR; simp; omega
    simp [hd, this, awp_seq, awp_reg, awp_ret, c248r2, c248R]
  · have hp := (p306 n d (by omega) h1 h2)
    have hb := buildE_ok n d (by omega) h1 h2
    simp [hd, awp_skip, awp_reg, c248r3]
    refine ⟨_, _, hp.fsp _, ?_⟩
    obtain h | ⟨a, b, h⟩ := buildE_two (decide (n < 0) != decide (d < 0)) n.natAbs d.natAbs
    · have h3 : okR n d = false := by
        cases h4 : okR n d with
        | false => rfl
        | true => rw [hb.2 h4] at h; simp at h
      rw [h, h3]
      simp [ratV, awp_seq, awp_reg, awp_cond, awp_ret, c248r4, c248r5, c248R, putL]
    · have h3 : okR n d = decide (a = n ∧ b = d) := by
        rw [h] at hb
        simp [ratV] at hb
        rw [Bool.eq_iff_iff, ← hb]; simp
      rw [h, h3]
      by_cases h4 : a = n <;> by_cases h5 : b = d <;> simp [h4, h5, ratV, awp_seq, awp_reg, awp_cond, awp_skip, awp_ret, c248r4, c248r5, c248r6, c248R, putL, V.eqL, V.eq1]
theorem okR_b {n d : Int} (h : okR n d = true) : 1 ≤ d ∧ d ≤ 1048576 ∧ n ≤ 1099511627776 ∧ -1099511627776 ≤ n := by
  unfold okR at h; simp at h; omega
theorem mul_b {a b : Int} (h1 : a ≤ 1099511627776) (h2 : -1099511627776 ≤ a) (h3 : 1 ≤ b) (h4 : b ≤ 1048576) : a * b ≤ 1152921504606846976 ∧ -1152921504606846976 ≤ a * b := by
  have := Int.mul_le_mul_of_nonneg_right h1 (show 0 ≤ b by omega)
  have := Int.mul_le_mul_of_nonneg_right h2 (show 0 ≤ b by omega)
  omega
theorem l291 (L : List V) (k : Nat) (hk : k < 2 ^ 40) (n d : Int) (h1 : i64 n) (h2 : i64 d) (hx : L[k]? = some (ratV n d)) (m : Int) (hm : (k : Int) < m) (h : List Row) (Q : AExit → St → Prop)
    (hok : okR n d = true → Q .normal ⟨[(6, .v (.list L)), (7, .v (.int .i64 m)), (8, .v (.int .i64 (k + 1 : Nat)))], h ++ [.cells [.v (.int .i64 n), .v (.int .i64 d)]]⟩)
    (hno : okR n d = false → ∀ s, find s.e 2 = .v (.int .i64 1) → Q .ret s) :
    awp Tryz.prog GLx c291l0 Q ⟨[(6, .v (.list L)), (7, .v (.int .i64 m)), (8, .v (.int .i64 k))], h⟩ := by
  have hw : IntKind.i64.wrap ((k : Int) + 1) = k + 1 := wrap_i64 (by omega) (by omega)
  simp only [c291l0, awp_seq, awp_reg, awp_block, awp_cond, c291r2]
  simp [hm, awp_skip, awp_reg, c291r3, hx, ratV, putL, c291r4]
  refine ⟨_, _, (p248 n d h1 h2).fsp _, ?_⟩
  cases ho : okR n d with
  | true =>
    have := hok ho
    simp [c291r5, awp_cond, awp_skip, awp_reg, c291r7, hw]
    simpa using this
  | false =>
    simp [c291r5, awp_cond, awp_seq, awp_reg, awp_ret, c291r6]
    exact hno ho _ rfl
theorem p291 (a b c d : Int) (h1 : i64 a) (h2 : i64 b) (h3 : i64 c) (h4 : i64 d) : PSp Tryz.prog GLx 291 [.list [ratV a b, ratV c d]] [.int .i64 (if okR a b && okR c d then 0 else 1)] := by
  refine psp_of_awp k291 rfl ?_
  simp only [c291, awp_seq, awp_reg, awp_block, awp_cond, c291r0, c291r1, entry]
  simp
  cases ho : okR a b with
  | false =>
    refine awp_loop_end ?_
    refine l291 [ratV a b, ratV c d] 0 (by omega) a b h1 h2 rfl 2 (by omega) [] _ (fun h => by rw [h] at ho; cases ho) ?_
    intro _ s hs
    simp [c291R, hs]
  | true =>
    refine awp_loop_one (s1 := ⟨[(6, .v (.list [ratV a b, ratV c d])), (7, .v (.int .i64 2)), (8, .v (.int .i64 1))], [.cells [.v (.int .i64 a), .v (.int .i64 b)]]⟩) ?_ ?_
    · exact l291 [ratV a b, ratV c d] 0 (by omega) a b h1 h2 rfl 2 (by omega) [] _ (fun _ => rfl) (fun h => by rw [h] at ho; cases ho)
    cases ho2 : okR c d with
    | false =>
      refine awp_loop_end ?_
      refine l291 [ratV a b, ratV c d] 1 (by omega) c d h3 h4 rfl 2 (by omega) [.cells [.v (.int .i64 a), .v (.int .i64 b)]] _ (fun h => by rw [h] at ho2; cases ho2) ?_
      intro _ s hs
      simp [c291R, hs]
    | true =>
      refine awp_loop_one (s1 := ⟨[(6, .v (.list [ratV a b, ratV c d])), (7, .v (.int .i64 2)), (8, .v (.int .i64 2))], [.cells [.v (.int .i64 a), .v (.int .i64 b)], .cells [.v (.int .i64 c), .v (.int .i64 d)]]⟩) ?_ ?_
      · exact l291 [ratV a b, ratV c d] 1 (by omega) c d h3 h4 rfl 2 (by omega) [.cells [.v (.int .i64 a), .v (.int .i64 b)]] _ (fun _ => rfl) (fun h => by rw [h] at ho2; cases ho2)
      refine awp_loop_end ?_
      simp only [c291l0, awp_seq, awp_reg, awp_block, awp_cond, c291r2]
      simp [awp_exit, awp_seq, awp_reg, awp_ret, c291r8, c291R]
def lessR (a b c d : Int) : Bool := decide (a * d < c * b)
def cmpR (a b c d : Int) : Int := if a * d < c * b then -1 else if c * b < a * d then 1 else 0
theorem p292 (a b c d : Int) (h1 : okR a b = true) (h2 : okR c d = true) : PSp Tryz.prog GLx 292 [ratV a b, ratV c d] [.int .i64 (cmpR a b c d)] := by
  refine psp_of_awp k292 rfl ?_
  have q1 := okR_b h1
  have q2 := okR_b h2
  have m1 := mul_b (a := a) (b := d) (by omega) (by omega) (by omega) (by omega)
  have m2 := mul_b (a := c) (b := b) (by omega) (by omega) (by omega) (by omega)
  unfold cmpR
  have w1 : IntKind.i64.wrap (a * d) = a * d := wrap_i64 (by omega) (by omega)
  have w2 : IntKind.i64.wrap (c * b) = c * b := wrap_i64 (by omega) (by omega)
  simp only [c292, awp_seq, awp_reg, awp_regD, awp_block, awp_cond, c292r0, c292r1, c292r2, entry]
  simp [ratV, w1, w2]
  by_cases l1 : a * d < c * b
  · simp [l1, awp_seq, awp_reg, awp_ret, c292r3, c292R]
  · by_cases l2 : c * b < a * d
    · simp [l1, l2, awp_seq, awp_reg, awp_cond, awp_ret, c292r4, c292r5, c292R]
    · simp [l1, l2, awp_seq, awp_reg, awp_cond, awp_skip, awp_ret, c292r4, c292r6, c292R]
theorem p227 (a b c d : Int) (h1 : i64 a) (h2 : i64 b) (h3 : i64 c) (h4 : i64 d) : PSp Tryz.prog GLx 227 [ratV a b, ratV c d] (if okR a b && okR c d then [.int .i64 (cmpR a b c d), .int .i64 0] else [.int .i64 0, .int .i64 1]) := by
  refine psp_of_awp k227 rfl ?_
  have hp := (p291 a b c d h1 h2 h3 h4).fsp
  simp only [c227, awp_seq, awp_reg, awp_block, awp_cond, c227r0, c227r1, c227r2, entry]
  simp [ratV] at hp ⊢
  refine ⟨_, _, hp _, ?_⟩
  cases ho1 : okR a b <;> cases ho2 : okR c d <;> simp [awp_seq, awp_reg, awp_skip, awp_ret, c227r3, c227r4, c227R]
  have hq := (p292 a b c d ho1 ho2).fsp
  simp [ratV] at hq
  refine ⟨_, ⟨_, hq _⟩, ?_⟩
  simp
theorem p352 (a b c d : Int) (h1 : okR a b = true) (h2 : okR c d = true) : PSp Tryz.prog GLx 352 [ratV a b, ratV c d] [.bool (lessR a b c d)] := by
  refine psp_of_awp k352 rfl ?_
  have q1 := okR_b h1
  have q2 := okR_b h2
  have m1 := mul_b (a := a) (b := d) (by omega) (by omega) (by omega) (by omega)
  have m2 := mul_b (a := c) (b := b) (by omega) (by omega) (by omega) (by omega)
  have w1 : IntKind.i64.wrap (a * d) = a * d := wrap_i64 (by omega) (by omega)
  have w2 : IntKind.i64.wrap (c * b) = c * b := wrap_i64 (by omega) (by omega)
  simp [c352, awp, c352r0, c352r1, c352R, entry, ratV, w1, w2, lessR]
theorem l215 (m : Nat) : ∀ (a b : Int), b.natAbs ≤ m → a.natAbs ≤ 1099511627776 → b.natAbs ≤ 1099511627776 →
    awp Tryz.prog GLx (.loop c215l0) (fun e s => e = .exit 0 ∧ ∃ g : Int, g.natAbs = Int.gcd a b ∧ find s.e 0 = .v (.int .i64 g)) ⟨[(0, .v (.int .i64 a)), (1, .v (.int .i64 b))], []⟩ := by
  induction m with
  | zero =>
    intro a b hb h1 h2
    have : b = 0 := by omega
    subst this
    refine awp_loop_end ?_
    simp only [c215l0, awp_seq, awp_reg, awp_block, awp_cond, c215r1]
    simp [awp_exit]
  | succ m ih =>
    intro a b hb h1 h2
    by_cases h0 : b = 0
    · exact ih a b (by omega) h1 h2
    · have e : (a.tmod b).natAbs = a.natAbs % b.natAbs := Int.natAbs_tmod a b
      have hlt := Nat.mod_lt a.natAbs (show 0 < b.natAbs by omega)
      have hih := ih b (a.tmod b) (by omega) h2 (by omega)
      have e2 : Int.gcd b (a.tmod b) = Int.gcd a b := by
        unfold Int.gcd
        rw [e, Nat.gcd_comm, ← Nat.gcd_rec, Nat.gcd_comm]
      rw [e2] at hih
      refine awp_loop_one ?_ hih
      simp only [c215l0, awp_seq, awp_reg, awp_block, awp_cond, c215r1]
      have w1 : IntKind.i64.wrap (a.tmod b) = a.tmod b := wrap_i64 (by omega) (by omega)
      simp [awp_skip, awp_regD, c215r2, w1, h0]
theorem p215 (a b : Int) (h1 : a.natAbs ≤ 1099511627776) (h2 : b.natAbs ≤ 1099511627776) : PSp Tryz.prog GLx 215 [.int .i64 a, .int .i64 b] [.int .i64 (Int.gcd a b)] := by
  refine psp_of_awp k215 rfl ?_
  simp only [c215, awp_seq, awp_block, awp_reg, c215r0, entry]
  simp
  refine awp_mono _ ?_ (l215 b.natAbs a b (Nat.le_refl _) h1 h2)
  rintro e s ⟨rfl, g, hg, h⟩
  have hgb : Int.gcd a b ≤ 2199023255552 := by
    unfold Int.gcd
    rcases Nat.eq_zero_or_pos a.natAbs with h3 | h3
    · rw [h3, Nat.gcd_zero_left]; omega
    · have := Nat.gcd_le_left b.natAbs h3; omega
  by_cases h0 : g < 0
  · have w : IntKind.i64.wrap (-g) = -g := wrap_i64 (by omega) (by omega)
    simp [c215r3, h, h0, awp_seq, awp_reg, awp_cond, awp_ret, c215r4, c215R, w]
    omega
  · simp [c215r3, h, h0, awp_seq, awp_reg, awp_cond, awp_skip, awp_ret, c215r5, c215R]
    omega
set_option maxHeartbeats 2000000 in
theorem p127 (n d : Int) (h1 : i64 n) (h2 : i64 d) : PSp Tryz.prog GLx 127 [ratV n d] [.int .i64 (if okR n d then 0 else 1)] := by
  refine psp_of_awp k127 rfl ?_
  simp only [c127, awp_seq, awp_reg, awp_block, awp_cond, c127r0, c127r1, entry]
  unfold okR
  by_cases b1 : d < 1
  · simp [ratV, b1, awp_seq, awp_reg, awp_ret, c127r2, c127R]; omega
  by_cases b2 : 1048576 < d
  · simp [ratV, b1, b2, awp_seq, awp_reg, awp_ret, c127r2, c127R]; omega
  by_cases b3 : 1099511627776 < n
  · simp [ratV, b1, b2, b3, awp_seq, awp_reg, awp_ret, c127r2, c127R]; omega
  by_cases b4 : n < -1099511627776
  · simp [ratV, b1, b2, b3, b4, awp_seq, awp_reg, awp_ret, c127r2, c127R]; omega
  simp [ratV, b1, b2, b3, b4]
  refine ⟨_, _, (p215 n d (by omega) (by omega)).fsp _, ?_⟩
  by_cases b5 : Int.gcd n d = 1
  · simp [b5, awp_skip, awp_reg, awp_ret, c127r3, c127R]; omega
  · simp [b5, awp_seq, awp_reg, awp_ret, c127r2, c127R]; omega
end Go.Va

namespace Go.Va
open Go.Proofs
structure Ivl where
  (ln ld hn hd : Int)
  (lo ho li hi : Bool)
def Ivl.V (x : Ivl) : V := .agg [.int .i64 x.ln, .int .i64 x.ld, .int .i64 x.hn, .int .i64 x.hd, .bool x.lo, .bool x.ho, .bool x.li, .bool x.hi]
def Ivl.ok (x : Ivl) : Prop := i64 x.ln ∧ i64 x.ld ∧ i64 x.hn ∧ i64 x.hd
structure End where
  (far n d : Int)
  (after : Bool)
def End.V (x : End) : V := .agg [.int .i64 x.far, .int .i64 x.n, .int .i64 x.d, .bool x.after]
def loE (x : Ivl) : End := if x.li then ⟨-1, 0, 0, false⟩ else ⟨0, x.ln, x.ld, x.lo⟩
def hiE (x : Ivl) : End := if x.hi then ⟨1, 0, 0, false⟩ else ⟨0, x.hn, x.hd, !x.ho⟩
theorem ren_leaf {K : St → Prop} {n0 : Nat} {s : St} (π : List (Nat × Nat)) (hp : permOK n0 s.h.length π = true) (ho : noObj s.h = true) (hK : K ⟨s.e.map fun p => (p.1, p.2.ren π), renRows π s.h⟩) : ∃ s2, RenS n0 s s2 ∧ K s2 :=
  ⟨_, .inr ⟨π, hp, ho, fun n => find_ren π s.e n, rfl⟩, hK⟩
set_option maxHeartbeats 2000000 in
theorem p303 (x : Ivl) : PSp Tryz.prog GLx 303 [x.V] [(loE x).V, (hiE x).V] := by
  obtain ⟨ln, ld, hn, hd, lo, ho, li, hi⟩ := x
  refine psp_of_awp k303 rfl ?_
  unfold c303
  rw [awp_seq, awp_reg]
  simp [c303r0, entry, Ivl.V]
  rw [awp_seq, awp_regA]
  obtain ⟨R0, hR0⟩ : ∃ R0 : List D, R0 = [.v (.int .i64 ln), .v (.int .i64 ld), .v (.int .i64 hn), .v (.int .i64 hd), .v (.bool lo), .v (.bool ho), .v (.bool li), .v (.bool hi)] := ⟨_, rfl⟩
  obtain ⟨Z, hZ⟩ : ∃ Z : List D, Z = [.v (.int .i64 0), .v (.int .i64 0), .v (.int .i64 0), .v (.bool false)] := ⟨_, rfl⟩
  obtain ⟨A, hA⟩ : ∃ A : List D, A = [.v (.int .i64 0), .v (.int .i64 ln), .v (.int .i64 ld), .v (.bool lo)] := ⟨_, rfl⟩
  obtain ⟨B, hB⟩ : ∃ B : List D, B = [.v (.int .i64 0), .v (.int .i64 hn), .v (.int .i64 hd), .v (.bool !ho)] := ⟨_, rfl⟩
  refine atok_mono _ (K := fun s => find s.e 1 = .ref 0 0 ∧ find s.e 2 = .ref 1 0 ∧ find s.e 3 = .ref 2 0 ∧
    ((find s.e 4 = .ref 3 0 ∧ find s.e 5 = .ref 4 0 ∧ s.h = [.cells R0, .cells Z, .cells Z, .cells A, .cells B]) ∨
     (find s.e 4 = .ref 4 0 ∧ find s.e 5 = .ref 3 0 ∧ s.h = [.cells R0, .cells Z, .cells Z, .cells B, .cells A]))) ?_ ?_
  · rintro s ⟨f1, f2, f3, h⟩
    have key : ∀ s : St, find s.e 1 = .ref 0 0 → find s.e 2 = .ref 1 0 → find s.e 3 = .ref 2 0 → find s.e 4 = .ref 3 0 → find s.e 5 = .ref 4 0 → s.h = [.cells R0, .cells Z, .cells Z, .cells A, .cells B] →
       awp Tryz.prog GLx (.seq (.seq (.reg c303r2 [1, 2, 3, 4, 5, 18]) (.cond (.t 18 false) (.reg c303r3 [1, 2, 3, 4, 5]) .skip)) (.seq (.seq (.reg c303r4 [2, 3, 4, 5, 21]) (.cond (.t 21 false) (.reg c303r5 [2, 3, 4, 5]) .skip)) (.seq (.regA c303r6 [2, 3] [[], [], [0], [0, 1, 2]] (.take 0 (.pick (.alt 1 (.take 2 (.take 3 .done)) (.alt 2 (.take 1 (.take 3 .done)) .none))))) .ret))) (fun e s => (match e with | .exit _ => False | _ => True) ∧ resVs s c303R = some [(loE ⟨ln, ld, hn, hd, lo, ho, li, hi⟩).V, (hiE ⟨ln, ld, hn, hd, lo, ho, li, hi⟩).V]) ⟨normE s.e [1, 2, 3, 4, 5], s.h⟩ := by
      rintro s f1 f2 f3 f4 f5 fh
      simp only [awp_seq, awp_reg, awp_cond, c303r2]
      simp [f1, f2, f3, f4, f5, fh, hR0]
      cases li <;> cases hi <;> simp [awp_skip, awp_reg, awp_ret, awp_regA, c303r3, c303r4, c303r5, c303r6, putL, loE, hiE, End.V, hA, hB, hZ] <;> refine ⟨_, .inl rfl, ?_⟩ <;> simp [c303R]
    rcases h with ⟨f4, f5, fh⟩ | ⟨f4, f5, fh⟩
    · exact ⟨s, .inl rfl, key s f1 f2 f3 f4 f5 fh⟩
    · refine ren_leaf [(3, 4), (4, 3)] (by rw [fh]; rfl) (by rw [fh]; rfl) (key _ ?_ ?_ ?_ ?_ ?_ ?_)
      · rw [find_ren, f1]; rfl
      · rw [find_ren, f2]; rfl
      · rw [find_ren, f3]; rfl
      · rw [find_ren, f4]; rfl
      · rw [find_ren, f5]; rfl
      · rw [fh, hR0, hZ, hA, hB]; rfl
  · simp [c303r1, putL, hR0, hZ, hA, hB]
end Go.Va

namespace Go.Va
open Go.Proofs
def End.b (x : End) : Prop := x.far ≤ 1 ∧ -1 ≤ x.far ∧ x.n ≤ 1099511627776 ∧ -1099511627776 ≤ x.n ∧ 0 ≤ x.d ∧ x.d ≤ 1048576
def lessE (a b : End) : Bool :=
  if a.far ≠ b.far then decide (a.far < b.far) else if a.far ≠ 0 then false else if a.n * b.d ≠ b.n * a.d then decide (a.n * b.d < b.n * a.d) else !a.after && b.after
theorem mul_b0 {a b : Int} (h1 : a ≤ 1099511627776) (h2 : -1099511627776 ≤ a) (h3 : 0 ≤ b) (h4 : b ≤ 1048576) : a * b ≤ 1152921504606846976 ∧ -1152921504606846976 ≤ a * b := by
  have := Int.mul_le_mul_of_nonneg_right h1 h3
  have := Int.mul_le_mul_of_nonneg_right h2 h3
  omega
theorem p304 (a b : End) (ha : a.b) (hb : b.b) : PSp Tryz.prog GLx 304 [a.V, b.V] [.bool (lessE a b)] := by
  obtain ⟨fa, na, da, aa⟩ := a
  obtain ⟨fb, nb, db, ab⟩ := b
  unfold End.b at ha hb
  simp only at ha hb
  have m1 := mul_b0 (a := na) (b := db) (by omega) (by omega) (by omega) (by omega)
  have m2 := mul_b0 (a := nb) (b := da) (by omega) (by omega) (by omega) (by omega)
  have w1 : IntKind.i64.wrap (na * db) = na * db := wrap_i64 (by omega) (by omega)
  have w2 : IntKind.i64.wrap (nb * da) = nb * da := wrap_i64 (by omega) (by omega)
  refine psp_of_awp k304 rfl ?_
  unfold lessE
  simp only [c304, awp_seq, awp_reg, awp_cond, c304r0, entry]
  simp only [End.V]
  simp [c304r1]
  by_cases h1 : fa = fb
  · subst h1
    simp [awp_skip, awp_reg, c304r3]
    by_cases h2 : fa = 0
    · subst h2
      simp [awp_skip, awp_reg, awp_regD, c304r5, w1, w2, c304r6]
      by_cases h3 : na * db = nb * da
      · rw [h3]
        simp [awp_skip, awp_reg, c304r8]
        cases aa <;> simp [awp_ret, c304R]
      · simp [h3, awp_seq, awp_reg, awp_ret, c304r7, c304R]
    · simp [h2, awp_seq, awp_reg, awp_ret, c304r4, c304R]
  · simp [h1, awp_seq, awp_reg, awp_ret, c304r2, c304R]
def smallR (n d : Int) : Bool := okR n d && decide (n ≤ 1073741824 ∧ -1073741824 ≤ n ∧ d ≤ 32768)
theorem p309 (n d : Int) (h1 : i64 n) (h2 : i64 d) : PSp Tryz.prog GLx 309 [ratV n d] [.bool (smallR n d)] := by
  refine psp_of_awp k309 rfl ?_
  have hp := (p248 n d h1 h2).fsp
  unfold smallR
  simp only [c309, awp_seq, awp_reg, awp_cond, c309r0, entry]
  simp [ratV] at hp ⊢
  simp [c309r1]
  refine ⟨_, _, hp _, ?_⟩
  cases okR n d with
  | false => simp [awp_ret, c309R]
  | true =>
    by_cases b1 : -1073741824 ≤ n <;> by_cases b2 : n ≤ 1073741824 <;> simp [b1, b2, awp_ret, c309R]
theorem p308 (n d : Int) (h1 : i64 n) (h2 : i64 d) (op inf : Bool) : PSp Tryz.prog GLx 308 [ratV n d, .bool op, .bool inf] [.bool (if inf then decide (n = 0 ∧ d = 0) && !op else smallR n d)] := by
  refine psp_of_awp k308 rfl ?_
  have hp := (p309 n d h1 h2).fsp
  simp only [c308, awp_seq, awp_reg, awp_cond, c308r0, entry]
  simp [ratV] at hp ⊢
  cases inf with
  | false =>
    simp [c308r1, awp_skip, awp_reg, c308r3]
    refine ⟨_, _, hp _, ?_⟩
    simp [awp_ret, c308R]
  | true =>
    simp [c308r1, awp_seq, awp_reg, c308r2]
    by_cases b1 : n = 0 <;> by_cases b2 : d = 0 <;> simp [b1, b2, V.eqL, V.eq1, awp_ret, c308R]
theorem p305 (l : List V) : PSp Tryz.prog GLx 305 [.list l] [.int .i64 (if l.length > 32 then 4 else 0)] := by
  refine psp_of_awp k305 rfl ?_
  simp only [c305, awp_seq, awp_reg, awp_cond, c305r0, entry]
  simp [c305r1]
  by_cases h : 32 < (l.length : Int)
  · have h' : 32 < l.length := by omega
    simp [h, h', awp_seq, awp_reg, awp_ret, c305r2, c305R]
  · have h' : ¬ 32 < l.length := by omega
    simp [h, h', awp_skip, awp_reg, awp_ret, c305r3, c305R]
def limE (n d : Int) (op inf : Bool) : Bool := if inf then decide (n = 0 ∧ d = 0) && !op else smallR n d
def goodE (x : Ivl) : Bool := limE x.ln x.ld x.lo x.li && limE x.hn x.hd x.ho x.hi && lessE (loE x) (hiE x)
theorem smallR_b {n d : Int} (h : smallR n d = true) : 1 ≤ d ∧ d ≤ 32768 ∧ n ≤ 1073741824 ∧ -1073741824 ≤ n := by
  unfold smallR at h; simp at h
  have := okR_b h.1
  omega
theorem loE_b {x : Ivl} (h : limE x.ln x.ld x.lo x.li = true) : (loE x).b := by
  unfold limE at h; unfold loE End.b
  split at h
  · rename_i hi; simp [hi]
  · rename_i hi
    have := smallR_b h
    simp [hi]; omega
theorem hiE_b {x : Ivl} (h : limE x.hn x.hd x.ho x.hi = true) : (hiE x).b := by
  unfold limE at h; unfold hiE End.b
  split at h
  · rename_i hi; simp [hi]
  · rename_i hi
    have := smallR_b h
    simp [hi]; omega
theorem p258 (x : Ivl) (hx : x.ok) : PSp Tryz.prog GLx 258 [x.V] [.bool (goodE x)] := by
  refine psp_of_awp k258 rfl ?_
  have p1 := (p308 x.ln x.ld hx.1 hx.2.1 x.lo x.li).fsp
  have p2 := (p308 x.hn x.hd hx.2.2.1 hx.2.2.2 x.ho x.hi).fsp
  have p3 := (p303 x).fsp
  have p4 := fun h1 h2 => (p304 (loE x) (hiE x) (loE_b h1) (hiE_b h2)).fsp
  unfold goodE
  have e1 : ∀ n d op inf, (if inf then decide (n = 0 ∧ d = 0) && !op else smallR n d) = limE n d op inf := fun _ _ _ _ => rfl
  rw [e1] at p1 p2
  generalize hl1 : limE x.ln x.ld x.lo x.li = l1 at *
  generalize hl2 : limE x.hn x.hd x.ho x.hi = l2 at *
  simp only [c258, awp_seq, awp_reg, awp_cond, c258r0, c258r1, entry]
  simp [ratV, Ivl.V] at p1 p2 p3 ⊢
  simp [c258r2]
  refine ⟨_, _, p1 _, ?_⟩
  simp
  cases l1 with
  | false => simp [awp_seq, awp_reg, awp_ret, c258r3, c258R]
  | true =>
    simp
    refine ⟨_, _, p2 _, ?_⟩
    simp
    cases l2 with
    | false => simp [awp_seq, awp_reg, awp_ret, c258r3, c258R]
    | true =>
      simp [awp_skip, awp_reg, c258r4]
      refine ⟨_, _, p3 _, ?_⟩
      have q := p4 rfl rfl
      simp [End.V] at q ⊢
      refine ⟨_, _, q _, ?_⟩
      simp [awp_ret, c258R]
end Go.Va

namespace Go.Va
open Go.Proofs
theorem get_appk (h l : List Row) (n k : Nat) (hn : n = h.length + k) : (h ++ l)[n]? = l[k]? := by
  subst hn; rw [List.getElem?_append_right (by omega)]; congr 1; omega
theorem set_appk (h l : List Row) (n k : Nat) (x : Row) (hn : n = h.length + k) : (h ++ l).set n x = h ++ l.set k x := by
  subst hn; rw [List.set_append_right _ _ (by omega)]; congr 2; omega
@[simp high] theorem get_app_0_0 (h l : List Row) : (h ++ l)[h.length]? = l[0]? := get_appk h l _ 0 (by omega)
@[simp high] theorem set_app_0_0 (h l : List Row) (x : Row) : (h ++ l).set (h.length) x = h ++ l.set 0 x := set_appk h l _ 0 x (by omega)
@[simp high] theorem get_app_1_0 (h l : List Row) : (h ++ l)[h.length + 1]? = l[1]? := get_appk h l _ 1 (by omega)
@[simp high] theorem set_app_1_0 (h l : List Row) (x : Row) : (h ++ l).set (h.length + 1) x = h ++ l.set 1 x := set_appk h l _ 1 x (by omega)
@[simp high] theorem get_app_2_0 (h l : List Row) : (h ++ l)[h.length + 1 + 1]? = l[2]? := get_appk h l _ 2 (by omega)
@[simp high] theorem set_app_2_0 (h l : List Row) (x : Row) : (h ++ l).set (h.length + 1 + 1) x = h ++ l.set 2 x := set_appk h l _ 2 x (by omega)
@[simp high] theorem get_app_2_1 (h l : List Row) : (h ++ l)[h.length + 2]? = l[2]? := get_appk h l _ 2 (by omega)
@[simp high] theorem set_app_2_1 (h l : List Row) (x : Row) : (h ++ l).set (h.length + 2) x = h ++ l.set 2 x := set_appk h l _ 2 x (by omega)
@[simp high] theorem get_app_3_0 (h l : List Row) : (h ++ l)[h.length + 1 + 1 + 1]? = l[3]? := get_appk h l _ 3 (by omega)
@[simp high] theorem set_app_3_0 (h l : List Row) (x : Row) : (h ++ l).set (h.length + 1 + 1 + 1) x = h ++ l.set 3 x := set_appk h l _ 3 x (by omega)
@[simp high] theorem get_app_3_1 (h l : List Row) : (h ++ l)[h.length + 3]? = l[3]? := get_appk h l _ 3 (by omega)
@[simp high] theorem set_app_3_1 (h l : List Row) (x : Row) : (h ++ l).set (h.length + 3) x = h ++ l.set 3 x := set_appk h l _ 3 x (by omega)
@[simp high] theorem get_app_4_0 (h l : List Row) : (h ++ l)[h.length + 1 + 1 + 1 + 1]? = l[4]? := get_appk h l _ 4 (by omega)
@[simp high] theorem set_app_4_0 (h l : List Row) (x : Row) : (h ++ l).set (h.length + 1 + 1 + 1 + 1) x = h ++ l.set 4 x := set_appk h l _ 4 x (by omega)
@[simp high] theorem get_app_4_1 (h l : List Row) : (h ++ l)[h.length + 4]? = l[4]? := get_appk h l _ 4 (by omega)
@[simp high] theorem set_app_4_1 (h l : List Row) (x : Row) : (h ++ l).set (h.length + 4) x = h ++ l.set 4 x := set_appk h l _ 4 x (by omega)
@[simp high] theorem get_app_5_0 (h l : List Row) : (h ++ l)[h.length + 1 + 1 + 1 + 1 + 1]? = l[5]? := get_appk h l _ 5 (by omega)
@[simp high] theorem set_app_5_0 (h l : List Row) (x : Row) : (h ++ l).set (h.length + 1 + 1 + 1 + 1 + 1) x = h ++ l.set 5 x := set_appk h l _ 5 x (by omega)
@[simp high] theorem get_app_5_1 (h l : List Row) : (h ++ l)[h.length + 5]? = l[5]? := get_appk h l _ 5 (by omega)
@[simp high] theorem set_app_5_1 (h l : List Row) (x : Row) : (h ++ l).set (h.length + 5) x = h ++ l.set 5 x := set_appk h l _ 5 x (by omega)
@[simp high] theorem get_app_6_0 (h l : List Row) : (h ++ l)[h.length + 1 + 1 + 1 + 1 + 1 + 1]? = l[6]? := get_appk h l _ 6 (by omega)
@[simp high] theorem set_app_6_0 (h l : List Row) (x : Row) : (h ++ l).set (h.length + 1 + 1 + 1 + 1 + 1 + 1) x = h ++ l.set 6 x := set_appk h l _ 6 x (by omega)
@[simp high] theorem get_app_6_1 (h l : List Row) : (h ++ l)[h.length + 6]? = l[6]? := get_appk h l _ 6 (by omega)
@[simp high] theorem set_app_6_1 (h l : List Row) (x : Row) : (h ++ l).set (h.length + 6) x = h ++ l.set 6 x := set_appk h l _ 6 x (by omega)
@[simp high] theorem get_app_7_0 (h l : List Row) : (h ++ l)[h.length + 1 + 1 + 1 + 1 + 1 + 1 + 1]? = l[7]? := get_appk h l _ 7 (by omega)
@[simp high] theorem set_app_7_0 (h l : List Row) (x : Row) : (h ++ l).set (h.length + 1 + 1 + 1 + 1 + 1 + 1 + 1) x = h ++ l.set 7 x := set_appk h l _ 7 x (by omega)
@[simp high] theorem get_app_7_1 (h l : List Row) : (h ++ l)[h.length + 7]? = l[7]? := get_appk h l _ 7 (by omega)
@[simp high] theorem set_app_7_1 (h l : List Row) (x : Row) : (h ++ l).set (h.length + 7) x = h ++ l.set 7 x := set_appk h l _ 7 x (by omega)
@[simp high] theorem get_app_8_0 (h l : List Row) : (h ++ l)[h.length + 1 + 1 + 1 + 1 + 1 + 1 + 1 + 1]? = l[8]? := get_appk h l _ 8 (by omega)
@[simp high] theorem set_app_8_0 (h l : List Row) (x : Row) : (h ++ l).set (h.length + 1 + 1 + 1 + 1 + 1 + 1 + 1 + 1) x = h ++ l.set 8 x := set_appk h l _ 8 x (by omega)
@[simp high] theorem get_app_8_1 (h l : List Row) : (h ++ l)[h.length + 8]? = l[8]? := get_appk h l _ 8 (by omega)
@[simp high] theorem set_app_8_1 (h l : List Row) (x : Row) : (h ++ l).set (h.length + 8) x = h ++ l.set 8 x := set_appk h l _ 8 x (by omega)
section
variable {P : Program} {GL : Globals}
theorem awp_loop_I {c : AC} {Q : AExit → St → Prop} (n : Nat) (I : Nat → St → Prop) {s : St} (h0 : I 0 s)
    (h : ∀ k s, k ≤ n → I k s → awp P GL c (fun e s' => match e with | .normal => k < n ∧ I (k + 1) s' | e => Q e s') s) : awp P GL (.loop c) Q s := by
  refine ⟨fun m s => ∃ k, k ≤ n ∧ m = n - k ∧ I k s, ⟨n, 0, Nat.zero_le _, rfl, h0⟩, ?_⟩
  rintro m s ⟨k, hk, rfl, hi⟩
  refine awp_mono c ?_ (h k s hk hi)
  intro e s' h
  cases e with
  | normal => obtain ⟨hlt, hi'⟩ := h; exact ⟨n - (k + 1), by omega, k + 1, hlt, rfl, hi'⟩
  | exit i => exact h
  | ret => exact h
end
def badAt (l : List Ivl) (k : Nat) : Bool :=
  match l[k]? with
  | none => true
  | some x => !goodE x || (match k with | 0 => false | j + 1 => match l[j]? with | none => true | some y => !lessE (hiE y) (loE x))
def spanE (l : List Ivl) : Int := if (List.range l.length).any (badAt l) then 1 else if l.length > 32 then 4 else 0
theorem any_bad {n k : Nat} {f : Nat → Bool} (hk : k < n) (h : f k = true) : (List.range n).any f = true := by
  rw [List.any_eq_true]; exact ⟨k, by simpa using hk, h⟩
theorem any_good {n : Nat} {f : Nat → Bool} (h : ∀ k < n, f k = false) : (List.range n).any f = false := by
  rw [List.any_eq_false]; intro k hk; simpa using h k (by simpa using hk)
theorem goodE_b {x : Ivl} (h : goodE x = true) : (loE x).b ∧ (hiE x).b := by
  unfold goodE at h; simp at h
  exact ⟨loE_b h.1.1, hiE_b h.1.2⟩
theorem p246 (l : List Ivl) (hl : ∀ x ∈ l, x.ok) (hn : l.length ≤ 2 ^ 40) : PSp Tryz.prog GLx 246 [.list (l.map Ivl.V)] [.int .i64 (spanE l)] := by
  refine psp_of_awp k246 rfl ?_
  simp only [c246, awp_seq, awp_reg, awp_block, c246r0, c246r1, entry]
  simp
  refine awp_loop_I l.length (fun k s => s.e = [(0, .v (.list (l.map Ivl.V))), (9, .v (.list (l.map Ivl.V))), (10, .v (.int .i64 l.length)), (11, .v (.int .i64 k))] ∧ ∀ j < k, badAt l j = false) ⟨rfl, by omega⟩ ?_
  rintro k ⟨se, sh⟩ hk ⟨he, hg⟩
  simp only at he
  subst he
  simp only [c246l0, awp_seq, awp_reg, awp_block, awp_cond, c246r2]
  simp
  by_cases h1 : k < l.length
  · obtain ⟨x, hx⟩ : ∃ x, l[k]? = some x := ⟨_, List.getElem?_eq_getElem h1⟩
    have hxm := List.mem_of_getElem? hx
    have hw : IntKind.i64.wrap ((k : Int) + 1) = k + 1 := wrap_i64 (by omega) (by omega)
    have p1 := (p258 x (hl x hxm)).fsp
    rw [if_pos (by omega), awp_skip]
    simp only [awp_reg, c246r3]
    simp [Ivl.V] at p1
    simp [hx, Ivl.V, putL, c246r4]
    refine ⟨_, _, p1 _, ?_⟩
    simp
    cases hgx : goodE x with
    | false =>
      have hb : badAt l k = true := by unfold badAt; rw [hx]; simp [hgx]
      simp [awp_seq, awp_reg, awp_ret, c246r5, c246R]
      unfold spanE
      rw [any_bad h1 hb]; rfl
    | true =>
      simp [awp_skip, awp_reg, c246r6]
      cases k with
      | zero =>
        have hb : badAt l 0 = false := by unfold badAt; rw [hx]; simp [hgx]
        simp [awp_skip, awp_reg, c246r11]
        simp at hw
        simp [hw, h1]
        exact hb
      | succ j =>
        obtain ⟨y, hy⟩ : ∃ y, l[j]? = some y := ⟨_, List.getElem?_eq_getElem (by omega)⟩
        have hgy : goodE y = true := by
          have := hg j (by omega)
          unfold badAt at this; rw [hy] at this; simp at this; exact this.1
        have p2 := (p303 x).fsp
        have p3 := (p303 y).fsp
        have p4 := (p304 (hiE y) (loE x) (goodE_b hgy).2 (goodE_b hgx).1).fsp
        have hw2 : IntKind.i64.wrap (j : Int) = j := wrap_i64 (by omega) (by omega)
        simp [Ivl.V, End.V] at p2 p3 p4
        simp [awp_seq, awp_reg, c246r7]
        refine ⟨_, _, p2 _, ?_⟩
        simp [putL, c246r8, hw2, hy, Ivl.V]
        refine ⟨_, _, p3 _, ?_⟩
        simp [putL, c246r9]
        refine ⟨_, _, p4 _, ?_⟩
        simp
        cases hle : lessE (hiE y) (loE x) with
        | false =>
          have hb : badAt l (j + 1) = true := by unfold badAt; rw [hx]; simp [hgx, hy, hle]
          simp [awp_cond, awp_seq, awp_reg, awp_ret, c246r10, c246R]
          unfold spanE
          rw [any_bad h1 hb]; rfl
        | true =>
          have hb : badAt l (j + 1) = false := by unfold badAt; rw [hx]; simp [hgx, hy, hle]
          simp at hw
          simp [awp_cond, awp_skip, awp_reg, c246r11, hw, h1]
          intro i hi
          rcases Nat.lt_or_ge i (j + 1) with h | h
          · exact hg i h
          · have : i = j + 1 := by omega
            subst this; exact hb
  · have hk2 : k = l.length := by omega
    subst hk2
    rw [if_neg (by omega), awp_exit]
    have p5 := (p305 (l.map Ivl.V)).fsp
    simp at p5
    simp [c246r12]
    refine ⟨_, _, p5 _, ?_⟩
    simp [awp_ret, c246R]
    unfold spanE
    rw [any_good hg]; simp
end Go.Va

namespace Go.Va
open Go.Proofs
theorem p351 (n d : Int) (h1 : i64 n) (h2 : i64 d) : PSp Tryz.prog GLx 351 [ratV n d] [.bool (smallR n d)] := by
  refine psp_of_awp k351 rfl ?_
  have hp := (p127 n d h1 h2).fsp
  unfold smallR
  simp only [c351, awp_seq, awp_reg, awp_cond, c351r0, entry]
  simp [ratV] at hp ⊢
  simp [c351r1]
  refine ⟨_, _, hp _, ?_⟩
  cases okR n d with
  | false => simp [awp_ret, c351R]
  | true =>
    by_cases b1 : -1073741824 ≤ n <;> by_cases b2 : n ≤ 1073741824 <;> simp [b1, b2, awp_ret, c351R]
theorem eqL2 (a b c d : Int) : V.eqL [0, 0] [.int .i64 a, .int .i64 b] [.int .i64 c, .int .i64 d] = some (decide (a = c ∧ b = d)) := by
  by_cases h1 : a = c <;> by_cases h2 : b = d <;> simp [V.eqL, V.eq1, h1, h2]
def Ivl.cells (x : Ivl) : List D := [.v (.int .i64 x.ln), .v (.int .i64 x.ld), .v (.int .i64 x.hn), .v (.int .i64 x.hd), .v (.bool x.lo), .v (.bool x.ho), .v (.bool x.li), .v (.bool x.hi)]
set_option maxHeartbeats 2000000 in
theorem l332a (x : Ivl) (Q : AExit → St → Prop)
    (hQ : Q .normal ⟨[(1, .ref 0 0), (30, .v (.bool ((x.li && (!decide (x.ln = 0 ∧ x.ld = 0) || x.lo)) || (x.hi && (!decide (x.hn = 0 ∧ x.hd = 0) || x.ho)))))], [.cells x.cells]⟩) :
    awp Tryz.prog GLx (.reg c332r1 [1, 30]) Q ⟨[(1, .ref 0 0)], [.cells x.cells]⟩ := by
  obtain ⟨ln, ld, hn, hd, lo, ho, li, hi⟩ := x
  rw [awp_reg]
  simp only [Ivl.cells] at *
  simp only [c332r1]
  have e1 := eqL2 ln ld 0 0
  have e2 := eqL2 hn hd 0 0
  generalize decide (ln = 0 ∧ ld = 0) = A at *
  generalize decide (hn = 0 ∧ hd = 0) = B at *
  cases li with
  | false =>
    cases hi with
    | false => simpa using hQ
    | true => cases B <;> cases ho <;> simp [e2] <;> simpa using hQ
  | true =>
    cases hi with
    | false => cases A <;> cases lo <;> simp [e1] <;> simpa using hQ
    | true => cases A <;> cases B <;> cases lo <;> cases ho <;> simp [e1, e2] <;> simpa using hQ
set_option maxHeartbeats 2000000 in
theorem l332b (x : Ivl) (sl sh : Bool) (Q : AExit → St → Prop)
    (hQ : Q .normal ⟨[(1, .ref 0 0), (52, .v (.bool ((!x.li && !sl) || (!x.hi && !sh))))], [.cells x.cells]⟩) :
    awp Tryz.prog GLx (.reg c332r5 [1, 52]) Q ⟨[(1, .ref 0 0), (3, .v (.bool sl)), (4, .v (.bool sh))], [.cells x.cells]⟩ := by
  obtain ⟨ln, ld, hn, hd, lo, ho, li, hi⟩ := x
  rw [awp_reg]
  simp only [Ivl.cells] at *
  simp only [c332r5]
  cases li <;> cases hi <;> cases sl <;> cases sh <;> simp <;> simpa using hQ
def goodR (x : Ivl) : Bool :=
  if (x.li && (!decide (x.ln = 0 ∧ x.ld = 0) || x.lo)) || (x.hi && (!decide (x.hn = 0 ∧ x.hd = 0) || x.ho)) then false
  else if (!x.li && !smallR x.ln x.ld) || (!x.hi && !smallR x.hn x.hd) then false
  else if x.li || x.hi then true
  else if x.ln = x.hn ∧ x.ld = x.hd then !x.lo && !x.ho
  else lessR x.ln x.ld x.hn x.hd
set_option maxHeartbeats 2000000 in
theorem p332 (x : Ivl) (hx : x.ok) : PSp Tryz.prog GLx 332 [x.V] [.bool (goodR x)] := by
  refine psp_of_awp k332 rfl ?_
  have p1 := (p351 x.ln x.ld hx.1 hx.2.1).fsp
  have p2 := (p351 x.hn x.hd hx.2.2.1 hx.2.2.2).fsp
  obtain ⟨R, hR⟩ : ∃ R, goodR x = R := ⟨_, rfl⟩
  rw [hR]
  unfold goodR at hR
  unfold c332
  rw [awp_seq, awp_reg]
  simp [c332r0, entry, Ivl.V]
  rw [awp_seq, awp_seq]
  refine l332a x _ ?_
  generalize ((x.li && (!decide (x.ln = 0 ∧ x.ld = 0) || x.lo)) || (x.hi && (!decide (x.hn = 0 ∧ x.hd = 0) || x.ho))) = g1 at *
  simp [awp_cond]
  cases g1 with
  | true => simp at hR; simp [awp_seq, awp_reg, awp_ret, c332r2, c332R, hR]
  | false =>
    simp only [awp_skip, if_neg Bool.false_ne_true] at hR ⊢
    rw [awp_seq, awp_reg]
    simp [ratV] at p1 p2
    simp [c332r3, Ivl.cells]
    refine ⟨_, _, p1 _, ?_⟩
    simp
    rw [awp_seq, awp_reg]
    simp [c332r4, Ivl.cells]
    refine ⟨_, _, p2 _, ?_⟩
    simp
    rw [awp_seq, awp_seq]
    refine l332b x (smallR x.ln x.ld) (smallR x.hn x.hd) _ ?_
    have hs1 : ((!x.li && !smallR x.ln x.ld) || (!x.hi && !smallR x.hn x.hd)) = false → x.li = false → x.hi = false → okR x.ln x.ld = true ∧ okR x.hn x.hd = true := by
      intro h h1 h2
      rw [h1, h2] at h
      simp [smallR] at h
      exact ⟨h.1.1, h.2.1⟩
    generalize ((!x.li && !smallR x.ln x.ld) || (!x.hi && !smallR x.hn x.hd)) = g2 at *
    simp [awp_cond]
    cases g2 with
    | true => simp at hR; simp [awp_seq, awp_reg, awp_ret, c332r6, c332R, hR]
    | false =>
      simp only [awp_skip, if_neg Bool.false_ne_true] at hR ⊢
      obtain ⟨ln, ld, hn, hd, lo, ho, li, hi⟩ := x
      simp only [Ivl.cells] at *
      rw [awp_seq, awp_seq, awp_reg]
      cases li with
      | true => simp at hR; simp [c332r7, awp_cond, awp_seq, awp_reg, awp_ret, c332r8, c332R, hR]
      | false =>
        cases hi with
        | true => simp at hR; simp [c332r7, awp_cond, awp_seq, awp_reg, awp_ret, c332r8, c332R, hR]
        | false =>
          obtain ⟨o1, o2⟩ := hs1 trivial rfl rfl
          have p3 := (p352 ln ld hn hd o1 o2).fsp
          simp [ratV] at p3
          simp [c332r7, awp_cond, awp_skip]
          rw [awp_seq, awp_seq, awp_reg]
          simp [c332r9, eqL2]
          by_cases h3 : ln = hn ∧ ld = hd
          · simp [h3] at hR
            cases lo <;> cases ho <;> simp at hR <;> simp [h3, awp_cond, awp_seq, awp_reg, awp_ret, c332r10, c332R, hR]
          · simp [h3] at hR
            simp [h3, awp_cond, awp_skip, awp_seq, awp_reg, c332r11]
            refine ⟨_, _, p3 _, ?_⟩
            simp [awp_ret, c332R, hR]
end Go.Va

namespace Go.Va
open Go.Proofs
def apartR (a b : Ivl) : Bool :=
  if a.hi || b.li then false else if a.hn = b.ln ∧ a.hd = b.ld then a.ho && b.lo else lessR a.hn a.hd b.ln b.ld
theorem goodR_hi {x : Ivl} (h : goodR x = true) (hi : x.hi = false) : smallR x.hn x.hd = true := by
  unfold goodR at h
  by_cases c1 : ((x.li && (!decide (x.ln = 0 ∧ x.ld = 0) || x.lo)) || (x.hi && (!decide (x.hn = 0 ∧ x.hd = 0) || x.ho))) = true
  · rw [if_pos c1] at h; cases h
  · rw [if_neg c1] at h
    by_cases c2 : ((!x.li && !smallR x.ln x.ld) || (!x.hi && !smallR x.hn x.hd)) = true
    · rw [if_pos c2] at h; cases h
    · rw [hi] at c2; simp at c2; exact c2.2
theorem goodR_lo {x : Ivl} (h : goodR x = true) (hi : x.li = false) : smallR x.ln x.ld = true := by
  unfold goodR at h
  by_cases c1 : ((x.li && (!decide (x.ln = 0 ∧ x.ld = 0) || x.lo)) || (x.hi && (!decide (x.hn = 0 ∧ x.hd = 0) || x.ho))) = true
  · rw [if_pos c1] at h; cases h
  · rw [if_neg c1] at h
    by_cases c2 : ((!x.li && !smallR x.ln x.ld) || (!x.hi && !smallR x.hn x.hd)) = true
    · rw [if_pos c2] at h; cases h
    · rw [hi] at c2; simp at c2; exact c2.1
theorem smallR_ok {n d : Int} (h : smallR n d = true) : okR n d = true := by unfold smallR at h; simp at h; exact h.1
theorem p353 (x y : Ivl) (gx : goodR x = true) (gy : goodR y = true) : PSp Tryz.prog GLx 353 [x.V, y.V] [.bool (apartR x y)] := by
  refine psp_of_awp k353 rfl ?_
  have q1 := goodR_hi gx
  have q2 := goodR_lo gy
  obtain ⟨R, hR⟩ : ∃ R, apartR x y = R := ⟨_, rfl⟩
  rw [hR]
  unfold apartR at hR
  obtain ⟨ln, ld, hn, hd, lo, ho, li, hi⟩ := x
  obtain ⟨ln', ld', hn', hd', lo', ho', li', hi'⟩ := y
  simp only [Ivl.V] at *
  unfold c353
  rw [awp_seq, awp_reg]
  simp [c353r0, entry]
  rw [awp_seq, awp_seq, awp_reg]
  cases hi with
  | true => simp at hR; simp [c353r1, awp_cond, awp_seq, awp_reg, awp_ret, c353r2, c353R, hR]
  | false =>
    cases li' with
    | true => simp at hR; simp [c353r1, awp_cond, awp_seq, awp_reg, awp_ret, c353r2, c353R, hR]
    | false =>
      have p3 := (p352 hn hd ln' ld' (smallR_ok (q1 rfl)) (smallR_ok (q2 rfl))).fsp
      simp [ratV] at p3
      simp [c353r1, awp_cond, awp_skip]
      rw [awp_seq, awp_seq, awp_reg]
      simp [c353r3, eqL2]
      by_cases h3 : hn = ln' ∧ hd = ld'
      · simp [h3] at hR
        cases ho <;> simp at hR <;> simp [h3, awp_cond, awp_seq, awp_reg, awp_ret, c353r4, c353R, hR]
      · simp [h3] at hR
        simp [h3, awp_cond, awp_skip, awp_seq, awp_reg, c353r5]
        refine ⟨_, _, p3 _, ?_⟩
        simp [awp_ret, c353R, hR]
theorem dvd_of_co {b a d : Int} (hc : Int.gcd b a = 1) (h3 : b ∣ a * d) : b ∣ d := by
  have h3n : b.natAbs ∣ a.natAbs * d.natAbs := by rw [← Int.natAbs_mul]; exact Int.natAbs_dvd_natAbs.2 h3
  have hc' : Nat.Coprime b.natAbs a.natAbs := hc
  exact Int.natAbs_dvd_natAbs.1 (hc'.dvd_of_dvd_mul_left h3n)
theorem ratio_eq {a b c d : Int} (h1 : okR a b = true) (h2 : okR c d = true) (h : a * d = c * b) : a = c ∧ b = d := by
  unfold okR at h1 h2; simp at h1 h2
  obtain ⟨b1, _, _, _, g1⟩ := h1
  obtain ⟨d1, _, _, _, g2⟩ := h2
  have e1 : b ∣ d := by
    have h3 : b ∣ a * d := by rw [h]; exact Int.dvd_mul_left _ _
    have : Int.gcd b a = 1 := by rw [Int.gcd_comm]; exact g1
    exact dvd_of_co this h3
  have e2 : d ∣ b := by
    have h3 : d ∣ c * b := by rw [← h]; exact Int.dvd_mul_left _ _
    have : Int.gcd d c = 1 := by rw [Int.gcd_comm]; exact g2
    exact dvd_of_co this h3
  have e3 : b = d := by
    have := Int.le_of_dvd (by omega) e1
    have := Int.le_of_dvd (by omega) e2
    omega
  subst e3
  exact ⟨Int.eq_of_mul_eq_mul_right (by omega) h, rfl⟩
theorem good_same (x : Ivl) : goodR x = goodE x := by
  obtain ⟨ln, ld, hn, hd, lo, ho, li, hi⟩ := x
  unfold goodE goodR limE
  cases li <;> cases hi <;> simp only [loE, hiE, lessE]
  · cases hs1 : smallR ln ld <;> cases hs2 : smallR hn hd <;> simp
    have r := ratio_eq (smallR_ok hs1) (smallR_ok hs2)
    by_cases h3 : ln = hn ∧ ld = hd
    · obtain ⟨rfl, rfl⟩ := h3
      simp
    · rw [if_neg h3]
      rw [if_neg (fun h => h3 (r h))]
      rfl
  · generalize hA : decide (hn = 0 ∧ hd = 0) = A
    cases A <;> cases ho <;> cases smallR ln ld <;> simp
  · simp
  · simp
theorem apart_same (x y : Ivl) (gx : goodR x = true) (gy : goodR y = true) : apartR x y = lessE (hiE x) (loE y) := by
  have q1 := goodR_hi gx
  have q2 := goodR_lo gy
  obtain ⟨ln, ld, hn, hd, lo, ho, li, hi⟩ := x
  obtain ⟨ln', ld', hn', hd', lo', ho', li', hi'⟩ := y
  unfold apartR
  cases hi <;> cases li' <;> simp only [loE, hiE, lessE]
  · simp at q1 q2
    have r := ratio_eq (smallR_ok q1) (smallR_ok q2)
    by_cases h3 : hn = ln' ∧ hd = ld'
    · obtain ⟨rfl, rfl⟩ := h3
      simp
    · simp
      rw [if_neg h3, if_neg (fun h => h3 (r h))]
      rfl
  · simp
  · simp
  · simp
theorem p338 (l : List Ivl) (hl : ∀ x ∈ l, x.ok) (hn : l.length ≤ 2 ^ 40) : PSp Tryz.prog GLx 338 [.list (l.map Ivl.V)] [.int .i64 (spanE l)] := by
  refine psp_of_awp k338 rfl ?_
  simp only [c338, awp_seq, awp_reg, awp_block, c338r0, c338r1, entry]
  simp
  refine awp_loop_inv l.length (fun k => ⟨[(0, .v (.list (l.map Ivl.V))), (3, .v (.int .i64 k))], []⟩) (fun k => ∀ j < k, badAt l j = false) (by simp) (by omega) ?_
  intro k hk hg
  simp only [c338l0, awp_seq, awp_reg, awp_block, awp_cond, c338r2]
  simp
  by_cases h1 : k < l.length
  · obtain ⟨x, hx⟩ : ∃ x, l[k]? = some x := ⟨_, List.getElem?_eq_getElem h1⟩
    have hxm := List.mem_of_getElem? hx
    have hw : IntKind.i64.wrap ((k : Int) + 1) = k + 1 := wrap_i64 (by omega) (by omega)
    have p1 := (p332 x (hl x hxm)).fsp
    rw [if_pos (by omega), awp_skip]
    simp only [awp_reg, c338r4]
    simp [Ivl.V] at p1
    simp [hx, Ivl.V]
    refine ⟨_, _, p1 _, ?_⟩
    simp only [awp_regD, c338r5]
    simp
    cases hgx : goodR x with
    | false =>
      have hb : badAt l k = true := by unfold badAt; rw [hx]; simp [← good_same, hgx]
      simp [awp_seq, awp_reg, awp_cond, awp_ret, c338r6, c338R]
      unfold spanE
      rw [any_bad h1 hb]; rfl
    | true =>
      cases k with
      | zero =>
        have hb : badAt l 0 = false := by unfold badAt; rw [hx]; simp [← good_same, hgx]
        simp at hw
        simp [awp_skip, awp_cond, awp_reg, c338r3, hw, h1]
        exact hb
      | succ j =>
        obtain ⟨y, hy⟩ : ∃ y, l[j]? = some y := ⟨_, List.getElem?_eq_getElem (by omega)⟩
        have hgy : goodR y = true := by
          have := hg j (by omega)
          unfold badAt at this; rw [hy] at this; simp at this; rw [good_same]; exact this.1
        have p2 := p353 y x hgy hgx
        rw [apart_same y x hgy hgx] at p2
        have hw2 : IntKind.i64.wrap (j : Int) = j := wrap_i64 (by omega) (by omega)
        simp [Ivl.V] at p2
        have h9 : (0 : Int) < (j : Int) + 1 := by omega
        have h10 : (0 : Int) ≤ (j : Int) + 1 := by omega
        simp [hw2, hy, Ivl.V, hx, h9, h10]
        refine ⟨_, _, ⟨rfl, rfl⟩, _, p2, ?_⟩
        simp
        cases hle : lessE (hiE y) (loE x) with
        | false =>
          have hb : badAt l (j + 1) = true := by unfold badAt; rw [hx]; simp [hy, hle]
          simp [awp_cond, awp_seq, awp_reg, awp_ret, c338r6, c338R]
          unfold spanE
          rw [any_bad h1 hb]; rfl
        | true =>
          have hb : badAt l (j + 1) = false := by unfold badAt; rw [hx]; simp [← good_same, hgx, hy, hle]
          simp at hw
          simp [awp_cond, awp_skip, awp_reg, c338r3, hw, h1]
          intro i hi
          rcases Nat.lt_or_ge i (j + 1) with h | h
          · exact hg i h
          · have : i = j + 1 := by omega
            subst this; exact hb
  · have hk2 : k = l.length := by omega
    subst hk2
    rw [if_neg (by omega), awp_exit]
    simp only [awp_reg, awp_seq, awp_cond, c338r7]
    unfold spanE
    rw [any_good hg]
    by_cases h : 32 < (l.length : Int)
    · have h' : 32 < l.length := by omega
      simp [h, h', awp_seq, awp_reg, awp_ret, c338r8, c338R]
    · have h' : ¬ 32 < l.length := by omega
      simp [h, h', awp_skip, awp_reg, awp_ret, c338r9, c338R]
end Go.Va

namespace Go.Va
inductive F where
  | mk (op n : Int) (ins : List Ivl) (kids : List F)
def F.op : F → Int | .mk o _ _ _ => o
def F.n : F → Int | .mk _ n _ _ => n
def F.ins : F → List Ivl | .mk _ _ i _ => i
def F.kids : F → List F | .mk _ _ _ k => k
theorem F.ind {p : F → Prop} (h : ∀ op n ins kids, (∀ k ∈ kids, p k) → p (.mk op n ins kids)) (f : F) : p f :=
  F.rec (motive_1 := p) (motive_2 := fun l => ∀ k ∈ l, p k) (fun op n ins kids ih => h op n ins kids ih) (fun k hk => by cases hk)
    (fun x xs hx hxs k hk => by cases hk with | head => exact hx | tail _ hk => exact hxs k hk) f
mutual
def F.V : F → V | .mk op n ins kids => .agg [.int .i64 op, .int .i64 n, .list (ins.map Ivl.V), .list (F.Vs kids)]
def F.Vs : List F → List V | [] => [] | k :: ks => k.V :: F.Vs ks
end
theorem F.Vs_map : ∀ l, F.Vs l = l.map F.V
  | [] => rfl
  | k :: ks => by simp [F.Vs, F.Vs_map ks]
mutual
def F.nodes : F → List F | .mk op n ins kids => .mk op n ins kids :: F.nodess kids
def F.nodess : List F → List F | [] => [] | k :: ks => k.nodes ++ F.nodess ks
end
theorem F.nodess_map : ∀ l, F.nodess l = l.flatMap F.nodes
  | [] => rfl
  | k :: ks => by simp [F.nodess, F.nodess_map ks]
def F.size (f : F) : Nat := f.nodes.length
mutual
def F.depth : F → Nat | .mk _ _ _ kids => F.depths kids + 1
def F.depths : List F → Nat | [] => 0 | k :: ks => max k.depth (F.depths ks)
end
theorem F.size_eq (op n : Int) (ins : List Ivl) (kids : List F) : (F.mk op n ins kids).size = 1 + (kids.map F.size).sum := by
  unfold F.size
  simp only [F.nodes, List.length_cons, F.nodess_map, List.length_flatMap]
  have e : (fun f : F => f.size) = fun f => f.nodes.length := rfl
  rw [Nat.add_comm]
theorem F.kid_size {f : F} {kids : List F} (h : f ∈ kids) : f.size ≤ (kids.map F.size).sum := by
  induction kids with
  | nil => cases h
  | cons k ks ih =>
    simp only [List.map_cons, List.sum_cons]
    cases h with
    | head => omega
    | tail _ h => have := ih h; omega
theorem F.size_pos (f : F) : 1 ≤ f.size := by cases f; rw [F.size_eq]; omega
theorem F.kids_len (kids : List F) : kids.length ≤ (kids.map F.size).sum := by
  induction kids with
  | nil => simp
  | cons k ks ih => have := k.size_pos; simp only [List.map_cons, List.sum_cons, List.length_cons]; omega
theorem F.nodes_eq (op n : Int) (ins : List Ivl) (kids : List F) : (F.mk op n ins kids).nodes = .mk op n ins kids :: kids.flatMap F.nodes := by
  simp [F.nodes, F.nodess_map]
theorem F.V_eq (op n : Int) (ins : List Ivl) (kids : List F) : (F.mk op n ins kids).V = .agg [.int .i64 op, .int .i64 n, .list (ins.map Ivl.V), .list (kids.map F.V)] := by
  simp [F.V, F.Vs_map]
theorem F.depth_le : ∀ f : F, f.depth ≤ f.size := by
  refine F.ind fun op n ins kids ih => ?_
  rw [F.size_eq, F.depth]
  have : F.depths kids ≤ (kids.map F.size).sum := by
    induction kids with
    | nil => simp [F.depths]
    | cons k ks ihk =>
      have h1 := ih k (by simp)
      have h2 := ihk fun x hx => ih x (by simp [hx])
      simp only [F.depths, List.map_cons, List.sum_cons]; omega
  omega
def F.ok1 (f : F) : Prop := i64 f.op ∧ i64 f.n ∧ (∀ x ∈ f.ins, x.ok) ∧ f.ins.length ≤ 2 ^ 40
def F.ok (f : F) : Prop := (∀ g ∈ f.nodes, g.ok1) ∧ f.size ≤ 2 ^ 40
theorem F.ok_kid {op n : Int} {ins : List Ivl} {kids : List F} (h : (F.mk op n ins kids).ok) {k : F} (hk : k ∈ kids) : k.ok := by
  refine ⟨fun g hg => h.1 g ?_, ?_⟩
  · rw [F.nodes_eq]; exact List.mem_cons_of_mem _ (List.mem_flatMap.2 ⟨k, hk, hg⟩)
  · have := h.2; rw [F.size_eq] at this
    have := F.kid_size hk; omega
def formedF (f : F) : Bool :=
  if (f.op ≠ 2 ∧ 0 < f.ins.length) ∨ (f.op ≠ 2 ∧ f.op ≠ 1 ∧ f.n ≠ 0) then false
  else if f.op = 0 then f.kids.length == 0
  else if f.op = 1 then decide (f.kids.length = 0 ∧ 0 ≤ f.n ∧ f.n < 64)
  else if f.op = 2 then decide (f.kids.length = 0 ∧ 0 ≤ f.n ∧ f.n < 32 ∧ spanE f.ins = 0)
  else if f.op = 3 ∨ f.op = 6 then f.kids.length == 1
  else decide (f.op = 4 ∨ f.op = 5)
def formE (f : F) : Int := if f.size > 96 ∨ f.depth > 8 then 4 else if f.nodes.all formedF then 0 else 1
end Go.Va

namespace Go.Va
open Go.Proofs
def F.cells (f : F) : List D := [.v (.int .i64 f.op), .v (.int .i64 f.n), .v (.list (f.ins.map Ivl.V)), .v (.list (f.kids.map F.V))]
theorem F.ok1_self {f : F} (h : f.ok) : f.ok1 := h.1 f (by cases f; rw [F.nodes_eq]; exact List.mem_cons_self)
theorem sum_take {l : List F} {k : Nat} {x : F} (hx : l[k]? = some x) (f : F → Nat) : ((l.map f).take (k + 1)).sum = ((l.map f).take k).sum + f x := by
  rw [List.take_add_one, List.getElem?_map, hx]; simp
theorem sum_take_le (l : List F) (k : Nat) (f : F → Nat) : ((l.map f).take k).sum ≤ (l.map f).sum := by
  have := congrArg (fun l => l.sum) (List.take_append_drop k (l.map f))
  simp only [List.sum_append] at this
  omega
theorem take_map_len {l : List F} {f : F → Nat} : (l.map f).take l.length = l.map f := List.take_of_length_le (by simp)
theorem p285 : ∀ f : F, f.ok → PSp Tryz.prog GLx 285 [f.V] [.int .i64 f.size] := by
  refine F.ind fun op n ins kids ih hok => ?_
  refine psp_of_awp k285 rfl ?_
  have hsz := hok.2
  rw [F.size_eq] at hsz ⊢
  have hkl := F.kids_len kids
  simp only [c285, awp_seq, awp_reg, awp_block, c285r0, c285r1, c285r2, entry]
  simp [F.V_eq]
  refine awp_loop_nat0 kids.length (fun k => ⟨[(1, .ref 0 0), (3, .v (.int .i64 (1 + ((kids.map F.size).take k).sum : Nat))), (4, .v (.int .i64 k))], [.cells (F.mk op n ins kids).cells]⟩) (by simp [F.cells, F.op, F.n, F.ins, F.kids]) ?_
  intro k hk
  simp only [c285l0, awp_seq, awp_reg, awp_block, awp_cond, c285r3, F.cells, F.op, F.n, F.ins, F.kids]
  simp
  by_cases h1 : k < kids.length
  · obtain ⟨x, hx⟩ : ∃ x, kids[k]? = some x := ⟨_, List.getElem?_eq_getElem h1⟩
    have hxm := List.mem_of_getElem? hx
    have hw : IntKind.i64.wrap ((k : Int) + 1) = k + 1 := wrap_i64 (by omega) (by omega)
    have p1 := (ih x hxm (F.ok_kid hok hxm)).fsp
    have ht := sum_take hx F.size
    have hle := sum_take_le kids (k + 1) F.size
    have hw2 : IntKind.i64.wrap (1 + (((kids.map F.size).take k).sum : Int) + x.size) = 1 + (((kids.map F.size).take (k + 1)).sum : Int) := by
      rw [wrap_i64 (by omega) (by omega)]; omega
    rw [if_pos (by omega), awp_skip]
    simp only [awp_reg, c285r4, c285r5]
    obtain ⟨xo, xn, xi, xk⟩ := x
    simp [F.V_eq] at p1
    simp [hx, F.V_eq]
    refine ⟨_, _, p1 _, ?_⟩
    simp [hw, hw2, h1]
  · have hk2 : k = kids.length := by omega
    subst hk2
    rw [if_neg (by omega), awp_exit]
    simp [awp_reg, awp_ret, c285r6, c285R, take_map_len]
theorem depths_take {l : List F} {k : Nat} {x : F} (hx : l[k]? = some x) : F.depths (l.take (k + 1)) = max (F.depths (l.take k)) x.depth := by
  induction l generalizing k with
  | nil => simp at hx
  | cons y l ih =>
    cases k with
    | zero => simp at hx; subst hx; simp [F.depths]
    | succ k => simp at hx; simp only [List.take_succ_cons, F.depths, ih hx]; omega
theorem depths_le (l : List F) : F.depths l ≤ (l.map F.size).sum := by
  induction l with
  | nil => simp [F.depths]
  | cons k ks ih => have := F.depth_le k; simp only [F.depths, List.map_cons, List.sum_cons]; omega
theorem p286 : ∀ f : F, f.ok → PSp Tryz.prog GLx 286 [f.V] [.int .i64 f.depth] := by
  refine F.ind fun op n ins kids ih hok => ?_
  refine psp_of_awp k286 rfl ?_
  have hsz := hok.2
  rw [F.size_eq] at hsz
  have hkl := F.kids_len kids
  have hdl := depths_le kids
  simp only [c286, awp_seq, awp_reg, awp_block, c286r0, c286r1, c286r2, entry]
  simp [F.V_eq]
  refine awp_loop_nat0 kids.length (fun k => ⟨[(1, .ref 0 0), (3, .v (.int .i64 (F.depths (kids.take k)))), (4, .v (.int .i64 k))], [.cells (F.mk op n ins kids).cells]⟩) (by simp [F.cells, F.op, F.n, F.ins, F.kids, F.depths]) ?_
  intro k hk
  simp only [c286l0, awp_seq, awp_reg, awp_block, awp_cond, c286r3, F.cells, F.op, F.n, F.ins, F.kids]
  simp
  by_cases h1 : k < kids.length
  · obtain ⟨x, hx⟩ : ∃ x, kids[k]? = some x := ⟨_, List.getElem?_eq_getElem h1⟩
    have hxm := List.mem_of_getElem? hx
    have hw : IntKind.i64.wrap ((k : Int) + 1) = k + 1 := wrap_i64 (by omega) (by omega)
    have p1 := (ih x hxm (F.ok_kid hok hxm)).fsp
    have ht := depths_take hx
    rw [if_pos (by omega), awp_skip]
    simp only [awp_reg, c286r4, c286r5]
    obtain ⟨xo, xn, xi, xk⟩ := x
    simp [F.V_eq] at p1
    simp [hx, F.V_eq]
    refine ⟨_, _, p1 _, ?_⟩
    simp [hw, h1, ht]
    split <;> omega
  · have hk2 : k = kids.length := by omega
    subst hk2
    rw [if_neg (by omega), awp_exit]
    have hw2 : IntKind.i64.wrap ((F.depths kids : Int) + 1) = F.depths kids + 1 := wrap_i64 (by omega) (by omega)
    simp [awp_reg, awp_ret, c286r6, c286R, hw2, F.depth]
end Go.Va

