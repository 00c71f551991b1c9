/- Laws, part 3. No condition. -/
import Derived.Test.YtopldfpkgbkomaaGreatDoorL02
set_option linter.all false
set_option maxRecDepth 100000
set_option maxHeartbeats 4000000
noncomputable section
namespace Go.Va
open Go.Proofs
def aP(k:Int):Bool:=decide (-9223372036854775808<=k)&&decide (k <9223372036854775808)
def pV:Qz:=λf args h=>
 if f=9 then (match args,h with|[],[]=>some ([.R 0 0],[.dead])|_,_=>none)
 else if f=298 then (match args with
  |[.func 300 [.R r 0]]=>match h[r]? with
   |some (.cells [.mr m])=>match h[m]? with
    |some (.map [] _ _)=>some ([.W 3 1 []],[])
    |some (.map [(.int .i64 k,_)] _ _)=>if aP k then some ([.W 3 1 [.int .i64 k]],[]) else none
    |_=>none
   |_=>none
  |_=>none)
 else none
theorem rO:(ev Tb pV 3000).Pf 20 []=some [(true:V)]:=HR
end Go.Va
