/- Laws that ExtractBytes leans on, part 20. No condition of its own. -/
import Derived.Test.YtopldfpkgbkomaaGreatDoorL18
set_option linter.all false
set_option maxRecDepth 100000
set_option maxHeartbeats 4000000
noncomputable section
namespace Go.Va
open Go.Proofs
def T2:AT:=match ll 113 1 with| .seq _ (.seq _ (.seq (.block _ (.regA _ _ _ t)) _))=>t|_=> .done
def Vh:List (List Nat):=match ll 113 1 with| .seq _ (.seq _ (.seq (.block _ (.regA _ _ c _)) _))=>c|_=>[]
theorem TT:(lG 113 1)= .seq (.reg (oG 113 14) [1,2,4,5,6,56,57,58]) (.seq (.cond (.t 58 false) .skip (.exit 2)) (.seq (.block 3 (.regA (oG 113 15) [1,2,4,5,6,56,57] Vh T2)) (.reg (oG 113 16) [1,2,4,5,6,56,57]))):=(BA 113 1 :)
def SN:List GI:=lo 113 15
theorem XY:oG 113 15=SN:=(AA 113 15 :)
theorem Sa:T2.chk SN Vh (List.range 14)=true:=by kernel_rfl
def No:List (Option Nat):=[some 59,some 60,some 61,some 62,some 63,some 64,some 65,some 66,some 67,some 68,some 69,some 70,some 71,none]
def EO:List (Option Nat):=[none,some 11,none,none,none,none,none,none,none,none,none,some 13,none,none]
def G1:List Nat:=[1,2,4,5,6,56,57]
theorem EH:Uh No G1=true:=by kernel_rfl
def ZM (x:Own) (ds:List V) (j:Nat):D:=
 match j with
 |0=> .ref 4 6
 |1=> .own 246 3 ds
 |2=> .ref 2 0
 |3=> .v (.int .i64 x.party)
 |4=> .ref 2 0
 |5=> .v (.int .i64 x.num)
 |6=> .ref 2 0
 |7=> .v (.int .i64 x.den)
 |8=> .agg [.v (.int .i64 x.num),.v (.int .i64 x.den)]
 |9=> .agg [.v (.int .i64 x.party),.v (.int .i64 x.num),.v (.int .i64 x.den)]
 |10=> .own 246 3 [x.V]
 |11=> .own 246 3 (ds++[x.V])
 |12=> .ref 4 6
 |_=> .any
def Cc (d:Nat→Bool):Nat:=if d 7 then 3 else (if d 5 then 2 else (if d 3 then 1 else (0)))
def Ca (x:Own) (ds:List V) (d:Nat→Bool):D:=if d 13 then .own 246 3 (ds++[x.V]) else if d 1 then .v (.list ds) else .own 246 3 ds
def MB (n k:Int) (j:Nat):D:=
 match j with
 |1=> .ref 0 0
 |2=> .ref 1 0
 |4=> .ref 3 0
 |5=> .func 204 [.ref 3 0,.ref 0 0]
 |6=> .ref 4 0
 |56=> .v (.int .i64 n)
 |57=> .v (.int .i64 k)
 |_=> .any
def T1:AT:=match ll 113 2 with| .seq _ (.seq _ (.seq (.block _ (.regA _ _ _ t)) _))=>t|_=> .done
def Vg:List (List Nat):=match ll 113 2 with| .seq _ (.seq _ (.seq (.block _ (.regA _ _ c _)) _))=>c|_=>[]
theorem TS:(lG 113 2)= .seq (.reg (oG 113 18) [1,2,4,6,74,75,76]) (.seq (.cond (.t 76 false) .skip (.exit 4)) (.seq (.block 5 (.regA (oG 113 19) [1,2,4,6,74,75] Vg T1)) (.reg (oG 113 20) [1,2,4,6,74,75]))):=(BA 113 2 :)
def SM:List GI:=lo 113 19
theorem XX:oG 113 19=SM:=(AA 113 19 :)
theorem SZ:T1.chk SM Vg (List.range 15)=true:=by kernel_rfl
def Nn:List (Option Nat):=[some 77,some 78,some 79,some 80,some 81,some 82,some 83,some 84,some 85,some 86,some 87,some 88,some 89,some 90,none]
def D2:List (Option Nat):=[none,some 12,none,none,none,none,none,none,none,none,none,none,some 14,none,none]
def G0:List Nat:=[1,2,4,6,74,75]
theorem Dy:Uh Nn G0=true:=by kernel_rfl
def ZL (x:Lic) (ds:List V) (j:Nat):D:=
 match j with
 |0=> .ref 4 7
 |1=> .own 247 4 ds
 |2=> .ref 2 0
 |3=> .v (.int .i64 x.fr)
 |4=> .ref 2 0
 |5=> .v (.int .i64 x.to)
 |6=> .ref 2 0
 |7=> .v (.int .i64 x.fst)
 |8=> .ref 2 0
 |9=> .v (.int .i64 x.lst)
 |10=> .agg [.v (.int .i64 x.fr),.v (.int .i64 x.to),.v (.int .i64 x.fst),.v (.int .i64 x.lst)]
 |11=> .own 247 4 [x.V]
 |12=> .own 247 4 (ds++[x.V])
 |13=> .ref 4 7
 |_=> .any
def CK (d:Nat→Bool):Nat:=if d 9 then 4 else (if d 7 then 3 else (if d 5 then 2 else (if d 3 then 1 else (0))))
def CN (x:Lic) (ds:List V) (d:Nat→Bool):D:=if d 14 then .own 247 4 (ds++[x.V]) else if d 1 then .v (.list ds) else .own 247 4 ds
def MA (n k:Int) (j:Nat):D:=
 match j with
 |1=> .ref 0 0
 |2=> .ref 1 0
 |4=> .ref 3 0
 |6=> .ref 4 0
 |74=> .v (.int .i64 n)
 |75=> .v (.int .i64 k)
 |_=> .any
end Go.Va
