/- Laws, part 5. No condition. -/
import Derived.Test.YtbonllhdlmegeaaGreatDoorProg
import GoSem.ClaimGoes
set_option linter.all false
set_option maxRecDepth 100000
set_option maxHeartbeats 4000000
noncomputable section
namespace Go.Va
theorem goes_none {P:Program} (h:P.funcs.any Func.goes=false) (f:FuncId):P.goes f=false:=by
 have h1:∀g:Nat,(P.funcs[g]?).any Func.goes=false:=by
  intro g;cases hg:P.funcs[g]? with
  |none=>rfl
  |some fn=>
   have hm:fn∈P.funcs:=Array.mem_of_getElem? hg;cases hb:Func.goes fn with
   |false=>simp[hb]
   |true=>
    have:P.funcs.any Func.goes=true:=Array.any_eq_true'.2 ⟨fn,hm,hb⟩;rw[h]at this;cases this
 unfold Program.goes;rw[h,Bool.and_false,Bool.or_false];cases hc:(P.closure f).any λg=>(P.funcs[g]?).any Func.goes with
 |false=>rfl
 |true=>
  exfalso
  revert hc
  simp[h1]
theorem goesBy_none {P:Program} (h:P.funcs.any Func.goes=false) (c:OpenClaim) (hs:c.start= .entering):c.goesBy P=false:=by
 unfold OpenClaim.goesBy Program.goesAt Program.goesFrom;rw[hs];cases P.funcNamed c.func with
 |none=>rfl
 |some f=>simp[goes_none h f]
end Go.Va
