/- Laws that ExtractBytes leans on, part 13. No condition of its own. -/
import Derived.Test.YtopldfpkgbkomaaGreatDoorL10
set_option linter.all false
set_option maxRecDepth 100000
set_option maxHeartbeats 4000000
noncomputable section
namespace Go.Va
open Go.Proofs
def Dl:Nat→List Bool→List Bool
 |0,bs=>bs
 |i+1,bs=>Kf i (Dl i bs)
theorem NI (bs:List Bool):∀i,(Dl i bs).length=bs.length
 |0=>rfl
 |i+1=>by rw[Dl,S8,NI bs i]
theorem Vw:ZA=(.seq (.reg (oG 123 2) [1,3,4,5]) (.seq (.reg (oG 123 3) [1,5]) (.seq (.seq (.reg (oG 123 4) [5,24,25]) (.block 0 (.loop (lG 123 0)))) (.seq (.reg (oG 123 10) [2]) .ret)))):=rfl
theorem nH (bs:List Bool) (hbs:bs.length=4096):
  awp Tryz.prog An (.loop (lG 123 0)) (λe s=>e= .exit 0∧s.h=Cn (Dl 6 bs) (F7 6) (F7 6))
   ⟨[(5,.ref 6 0),(24,.v (.int .i64 6)),(25,.v (.int .i64 0))],Cn bs (F7 0) (F7 0)⟩:=by
 refine AM 6 (λi=>⟨[(5,.ref 6 0),(24,.v (.int .i64 6)),(25,.v (.int .i64 i))],Cn (Dl i bs) (F7 i) (F7 i)⟩) (by simp[Dl]) ?_;intro i hi;simp only[Zw,BA 123 0,AA 123 5];simp;by_cases hlt:i <6
 ·have hw:=Bo i;have p1:=lE (Dl i bs) i hlt (by rw[NI,hbs]);have hn:Dl (i+1) bs=Kf i (Dl i bs):=rfl;rw[hn];generalize Kf i (Dl i bs)=B2 at*;generalize Dl i bs=B at*;generalize F7 (i+1)=t2 at*;generalize F7 i=t1 at*;rw[if_pos (by omega),AB];simp only[AA 123 6];simp[AA 123 7,Cn];simp only[Cn]at p1;refine⟨_,_,p1,?_⟩;simp[AB,AA 123 9,hw];omega
 ·have:i=6:=by omega
  subst this;rw[if_neg (by omega),AJ];simp
theorem mG (bs:List Bool) (hbs:bs.length=4096):FX 123 [.ref 0 0] [QL bs] [.v (.bool true)] (Cn (Dl 6 bs) (F7 6) (F7 6)):=by
 refine Fn 123 ?_;have q:=nH bs hbs;generalize Cn (Dl 6 bs) (F7 6) (F7 6)=HH at*;rw[Xl];simp only[AE,AG,AA 123 0,Ab];simp;refine oF bs _ ?_;rw[Vw];simp only[AE,AG,AU,AA 123 2];simp[AA 123 3,AS,QL,Hf];simp[AA 123 4,EF];simp only[Cn,QL,Hf,F6]at q ⊢;refine AZ _ ?_ q;rintro e ⟨se,sh⟩ ⟨rfl,hh⟩;simp only at hh;subst hh;simp[AA 123 10,AD,AX 123]
end Go.Va
