/- Laws that ExtractBytes leans on, part 4. No condition of its own. -/
import Derived.Test.YtopldfpkgbkomaaGreatDoorL03
set_option linter.all false
set_option maxRecDepth 100000
set_option maxHeartbeats 4000000
noncomputable section
namespace Go.Va
open Go.Proofs
def aB (k:Int):Bool:=decide (-9223372036854775808≤k)&&decide (k <9223372036854775808)
def oH:QK:=λf args h=>
 if f=9 then (match args,h with|[],[]=>some ([.ref 0 0],[.dead])|_,_=>none)
 else if f=298 then (match args with
  |[.func 300 [.ref r 0]]=>match h[r]? with
   |some (.cells [.mref m])=>match h[m]? with
    |some (.map [] _ _)=>some ([.own 3 1 []],[])
    |some (.map [(.int .i64 k,_)] _ _)=>if aB k then some ([.own 3 1 [.int .i64 k]],[]) else none
    |_=>none
   |_=>none
  |_=>none)
 else none
theorem oB:(ev Tb oH 3000).Pf 20 []=some [.bool true]:=by kernel_rfl
end Go.Va
