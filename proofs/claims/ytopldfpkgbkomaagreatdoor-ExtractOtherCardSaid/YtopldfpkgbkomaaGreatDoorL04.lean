/- Part 4 of the proof that ExtractOther returns true for every input and leaves its arguments alone. Condition: the variable that the row lists holds what the text of the program lays. Texts joined here: VwGb. -/
import Derived.Test.YtopldfpkgbkomaaGreatDoorL03
set_option linter.all false
set_option maxRecDepth 100000
namespace Go.Va
open Go.Proofs
def AE2 (k:Int):Bool:=decide (-9223372036854775808≤k)&&decide (k <9223372036854775808)
def Pr2:PS:=λf args h=>
 if f=9 then (match args,h with|[],[]=>some ([.ref 0 0],[.dead])|_,_=>none)
 else if f=298 then (match args with
  |[.func 300 [.ref r 0]]=>match h[r]? with
   |some (.cells [.mref m])=>match h[m]? with
    |some (.map [] _ _)=>some ([.own 3 1 []],[])
    |some (.map [(.int .i64 k,_)] _ _)=>if AE2 k then some ([.own 3 1 [.int .i64 k]],[]) else none
    |_=>none
   |_=>none
  |_=>none)
 else none
theorem e20:(ev Tb Pr2 3000).Pf 20 []=some [.bool true]:=by kernel_rfl
end Go.Va
