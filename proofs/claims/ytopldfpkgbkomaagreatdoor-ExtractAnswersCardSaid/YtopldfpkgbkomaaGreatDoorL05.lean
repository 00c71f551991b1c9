/- Laws that ExtractAnswers leans on, part 5. No condition of its own. -/
import Derived.Test.YtopldfpkgbkomaaGreatDoorL03
set_option linter.all false
set_option maxRecDepth 100000
set_option maxHeartbeats 4000000
noncomputable section
namespace Go.Va
open Go.Proofs
section
structure Ivl where
 (ln ld hn hd:Int)
 (lo ho li hi:Bool)
def Ivl.V (x:Ivl):V:= .agg [.int .i64 x.ln,.int .i64 x.ld,.int .i64 x.hn,.int .i64 x.hd,.bool x.lo,.bool x.ho,.bool x.li,.bool x.hi]
def Ivl.ok (x:Ivl):Prop:=i64 x.ln∧i64 x.ld∧i64 x.hn∧i64 x.hd
structure End where
 (far n d:Int)
 (after:Bool)
def End.V (x:End):V:= .agg [.int .i64 x.far,.int .i64 x.n,.int .i64 x.d,.bool x.after]
def Pi (x:Ivl):End:=if x.li then ⟨-1,0,0,false⟩ else ⟨0,x.ln,x.ld,x.lo⟩
def Pm (x:Ivl):End:=if x.hi then ⟨1,0,0,false⟩ else ⟨0,x.hn,x.hd,!x.ho⟩
variable {s:St} {K:St→Prop}
theorem BH {n0:Nat} (π:List (Nat×Nat)) (hp:K6 n0 s.h.length π=true) (ho:MQ s.h=true) (hK:K ⟨s.e.map λp=>(p.1,p.2.ren π),Ay π s.h⟩):∃s2,PC n0 s s2∧K s2:=
 ⟨_,.inr ⟨π,hp,ho,λn=>Ea π s.e n,rfl⟩,hK⟩
theorem XP (x:Ivl):PX 303 [x.V] [(Pi x).V,(Pm x).V]:=by
 obtain⟨ln,ld,hn,hd,lo,ho,li,hi⟩:=x;refine BJ 303 ?_;rw[Ai 303];rw[AE,AF];simp[AA 303 0,AX,Ivl.V];rw[AE,Bf];obtain⟨R0,hR0⟩:∃R0:List D,R0=[.v (.int .i64 ln),.v (.int .i64 ld),.v (.int .i64 hn),.v (.int .i64 hd),.v (.bool lo),.v (.bool ho),.v (.bool li),.v (.bool hi)]:=⟨_,rfl⟩;obtain⟨Z,hZ⟩:∃Z:List D,Z=[.v (.int .i64 0),.v (.int .i64 0),.v (.int .i64 0),.v (.bool false)]:=⟨_,rfl⟩;obtain⟨A,hA⟩:∃A:List D,A=[.v (.int .i64 0),.v (.int .i64 ln),.v (.int .i64 ld),.v (.bool lo)]:=⟨_,rfl⟩;obtain⟨B,hB⟩:∃B:List D,B=[.v (.int .i64 0),.v (.int .i64 hn),.v (.int .i64 hd),.v (.bool !ho)]:=⟨_,rfl⟩;refine Bg _ (K:=λs=>AG s.e 1= .ref 0 0∧AG s.e 2= .ref 1 0∧AG s.e 3= .ref 2 0∧
  ((AG s.e 4= .ref 3 0∧AG s.e 5= .ref 4 0∧s.h=[.cells R0,.cells Z,.cells Z,.cells A,.cells B])∨
   (AG s.e 4= .ref 4 0∧AG s.e 5= .ref 3 0∧s.h=[.cells R0,.cells Z,.cells Z,.cells B,.cells A]))) ?_ ?_
 ·rintro s ⟨f1,f2,f3,h⟩;have key:∀s:St,AG s.e 1= .ref 0 0→AG s.e 2= .ref 1 0→AG s.e 3= .ref 2 0→AG s.e 4= .ref 3 0→AG s.e 5= .ref 4 0→s.h=[.cells R0,.cells Z,.cells Z,.cells A,.cells B]→
    awp Tryz.prog Ah (.seq (.seq (.reg (oG 303 2) [1,2,3,4,5,18]) (.cond (.t 18 false) (.reg (oG 303 3) [1,2,3,4,5]) .skip)) (.seq (.seq (.reg (oG 303 4) [2,3,4,5,21]) (.cond (.t 21 false) (.reg (oG 303 5) [2,3,4,5]) .skip)) (.seq (.regA (oG 303 6) [2,3] [[],[],[0],[0,1,2]] (.take 0 (.pick (.alt 1 (.take 2 (.take 3 .done)) (.alt 2 (.take 1 (.take 3 .done)) .none))))) .ret))) (λe s=>(match e with| .exit _=>False|_=>True)∧CR s (gR 303)=some [(Pi ⟨ln,ld,hn,hd,lo,ho,li,hi⟩).V,(Pm ⟨ln,ld,hn,hd,lo,ho,li,hi⟩).V]) ⟨Bd s.e [1,2,3,4,5],s.h⟩:=by
   rintro s f1 f2 f3 f4 f5 fh;simp only[AE,AF,AK,AA 303 2];simp[f1,f2,f3,f4,f5,fh,hR0];cases li<;>cases hi<;>simp[AD,AB,Bf,AA 303 3,AA 303 4,AA 303 5,AA 303 6,AO,Pi,Pm,End.V,hA,hB,hZ]<;>refine⟨_,.inl rfl,?_⟩<;>simp[AW 303]
  rcases h with ⟨f4,f5,fh⟩|⟨f4,f5,fh⟩
  ·exact⟨s,.inl rfl,key s f1 f2 f3 f4 f5 fh⟩
  ·refine BH [(3,4),(4,3)] (by rw[fh];rfl) (by rw[fh];rfl) (key _ ?_ ?_ ?_ ?_ ?_ ?_)
   ·rw[Ea,f1];rfl
   ·rw[Ea,f2];rfl
   ·rw[Ea,f3];rfl
   ·rw[Ea,f4];rfl
   ·rw[Ea,f5];rfl
   ·rw[fh,hR0,hZ,hA,hB];rfl
 ·simp[AA 303 1,AO,hR0,hZ,hA,hB]
end
end Go.Va
