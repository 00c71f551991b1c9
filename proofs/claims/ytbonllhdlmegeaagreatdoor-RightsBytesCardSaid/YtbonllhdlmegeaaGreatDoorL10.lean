/- Laws, part 10. No condition. -/
import Derived.Test.YtbonllhdlmegeaaGreatDoorL07
set_option linter.all false
set_option maxRecDepth 100000
set_option maxHeartbeats 4000000
noncomputable section
namespace Go.Va
open Go.Proofs
def manyI (L:Nat) (s:RS):Int:=if (rInt s).1 <0 then 0 else if (L:Int) <(rInt s).1 then L else (rInt s).1
theorem manyI_b (L:Nat) (s:RS):0≤manyI L s∧manyI L s≤L:=by unfold manyI;split<;>(try split)<;>omega
theorem p204e (h:List Row) (c4 c1 rr:Nat) (bs:List V) (s:RS) (hB:∀x∈s.1,0≤x∧x <256) (h4:h[c4]?=some (.cells [.ref rr 0])) (h1:h[c1]?=some (.cells [.v (.list bs)])) (hr:h[rr]?=some s.row) (hne:c1≠rr):
  FSp Tryz.prog GLx 42 [.ref c4 0,.ref c1 0] h [.v (.int .i64 (manyI bs.length s))] (h.set rr (rInt s).2.row):=by
 refine fsp_of_awp (Zkk 42) rfl ?_;have q:=p45e s hB h rr hr;unfold manyI;generalize (rInt s).1=n at*;generalize (rInt s).2=s' at*;have h1':(h.set rr s'.row)[c1]?=some (.cells [.v (.list bs)]):=by rw[List.getElem?_set_ne (Ne.symm hne)];exact h1
 have z:¬((bs.length:Int) <0):=by omega
 simp only[Zga 42,awp_seq,awp_reg,Zge 42 0,entryD];simp;rw[awp_regA];refine atok_mono _ (λs hs=>⟨s,.inl rfl,hs⟩) ?_;simp only[Zge 42 1];simp[h4,h1];by_cases m1:n <0
 ·constructor
  ·refine⟨_,_,q,?_⟩;simp[h1',m1,z,awp_ret,Zgr 42]
  ·refine⟨_,_,q,?_⟩;simp[m1,z,awp_ret,Zgr 42]
 ·by_cases m2:(bs.length:Int) <n
  ·constructor
   ·refine⟨_,_,q,?_⟩;simp[h1',m1,m2,awp_ret,Zgr 42]
   ·refine⟨_,_,q,?_⟩;simp[m1,m2,awp_ret,Zgr 42]
  ·constructor
   ·refine⟨_,_,q,?_⟩;simp[h1',m1,m2,awp_ret,Zgr 42]
   ·refine⟨_,_,q,?_⟩;simp[m1,m2,awp_ret,Zgr 42]
end Go.Va
