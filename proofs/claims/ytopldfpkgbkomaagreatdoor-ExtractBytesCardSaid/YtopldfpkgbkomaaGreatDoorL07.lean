/- Laws that ExtractBytes leans on, part 7. No condition of its own. -/
import Derived.Test.YtopldfpkgbkomaaGreatDoorL05
set_option linter.all false
set_option maxRecDepth 100000
set_option maxHeartbeats 4000000
noncomputable section
namespace Go.Va
open Go.Proofs
section
structure Ivl where
 (ln ld hn hd:Int)
 (lo ho li hi:Bool)
def Ivl.V (x:Ivl):V:= .agg [.int .i64 x.ln,.int .i64 x.ld,.int .i64 x.hn,.int .i64 x.hd,.bool x.lo,.bool x.ho,.bool x.li,.bool x.hi]
def Ivl.ok (x:Ivl):Prop:=i64 x.ln∧i64 x.ld∧i64 x.hn∧i64 x.hd
structure End where
 (far n d:Int)
 (after:Bool)
def End.V (x:End):V:= .agg [.int .i64 x.far,.int .i64 x.n,.int .i64 x.d,.bool x.after]
def Qq (x:Ivl):End:=if x.li then ⟨-1,0,0,false⟩ else ⟨0,x.ln,x.ld,x.lo⟩
def Qt (x:Ivl):End:=if x.hi then ⟨1,0,0,false⟩ else ⟨0,x.hn,x.hd,!x.ho⟩
variable {s:St} {K:St→Prop}
theorem Ou {n0:Nat} (π:List (Nat×Nat)) (hp:LY n0 s.h.length π=true) (ho:M6 s.h=true) (hK:K ⟨s.e.map λp=>(p.1,p.2.ren π),C6 π s.h⟩):∃s2,RJ n0 s s2∧K s2:=
 ⟨_,.inr ⟨π,hp,ho,λn=>Es π s.e n,rfl⟩,hK⟩
theorem Zh (x:Ivl):PX 303 [x.V] [(Qq x).V,(Qt x).V]:=by
 obtain⟨ln,ld,hn,hd,lo,ho,li,hi⟩:=x;refine BU 303 ?_;rw[At 303];rw[AE,AG];simp[AA 303 0,AV,Ivl.V];rw[AE,CO];obtain⟨R0,hR0⟩:∃R0:List D,R0=[.v (.int .i64 ln),.v (.int .i64 ld),.v (.int .i64 hn),.v (.int .i64 hd),.v (.bool lo),.v (.bool ho),.v (.bool li),.v (.bool hi)]:=⟨_,rfl⟩;obtain⟨Z,hZ⟩:∃Z:List D,Z=[.v (.int .i64 0),.v (.int .i64 0),.v (.int .i64 0),.v (.bool false)]:=⟨_,rfl⟩;obtain⟨A,hA⟩:∃A:List D,A=[.v (.int .i64 0),.v (.int .i64 ln),.v (.int .i64 ld),.v (.bool lo)]:=⟨_,rfl⟩;obtain⟨B,hB⟩:∃B:List D,B=[.v (.int .i64 0),.v (.int .i64 hn),.v (.int .i64 hd),.v (.bool !ho)]:=⟨_,rfl⟩;refine CT _ (K:=λs=>AF s.e 1= .ref 0 0∧AF s.e 2= .ref 1 0∧AF s.e 3= .ref 2 0∧
  ((AF s.e 4= .ref 3 0∧AF s.e 5= .ref 4 0∧s.h=[.cells R0,.cells Z,.cells Z,.cells A,.cells B])∨
   (AF s.e 4= .ref 4 0∧AF s.e 5= .ref 3 0∧s.h=[.cells R0,.cells Z,.cells Z,.cells B,.cells A]))) ?_ ?_
 ·rintro s ⟨f1,f2,f3,h⟩;have key:∀s:St,AF s.e 1= .ref 0 0→AF s.e 2= .ref 1 0→AF s.e 3= .ref 2 0→AF s.e 4= .ref 3 0→AF s.e 5= .ref 4 0→s.h=[.cells R0,.cells Z,.cells Z,.cells A,.cells B]→
    awp Tryz.prog An (.seq (.seq (.reg (oG 303 2) [1,2,3,4,5,18]) (.cond (.t 18 false) (.reg (oG 303 3) [1,2,3,4,5]) .skip)) (.seq (.seq (.reg (oG 303 4) [2,3,4,5,21]) (.cond (.t 21 false) (.reg (oG 303 5) [2,3,4,5]) .skip)) (.seq (.regA (oG 303 6) [2,3] [[],[],[0],[0,1,2]] (.take 0 (.pick (.alt 1 (.take 2 (.take 3 .done)) (.alt 2 (.take 1 (.take 3 .done)) .none))))) .ret))) (λe s=>(match e with| .exit _=>False|_=>True)∧Bw s (gR 303)=some [(Qq ⟨ln,ld,hn,hd,lo,ho,li,hi⟩).V,(Qt ⟨ln,ld,hn,hd,lo,ho,li,hi⟩).V]) ⟨Bm s.e [1,2,3,4,5],s.h⟩:=by
   rintro s f1 f2 f3 f4 f5 fh;simp only[AE,AG,AL,AA 303 2];simp[f1,f2,f3,f4,f5,fh,hR0];cases li<;>cases hi<;>simp[AB,AD,CO,AA 303 3,AA 303 4,AA 303 5,AA 303 6,AS,Qq,Qt,End.V,hA,hB,hZ]<;>refine⟨_,.inl rfl,?_⟩<;>simp[AX 303]
  rcases h with ⟨f4,f5,fh⟩|⟨f4,f5,fh⟩
  ·exact⟨s,.inl rfl,key s f1 f2 f3 f4 f5 fh⟩
  ·refine Ou [(3,4),(4,3)] (by rw[fh];rfl) (by rw[fh];rfl) (key _ ?_ ?_ ?_ ?_ ?_ ?_)
   ·rw[Es,f1];rfl
   ·rw[Es,f2];rfl
   ·rw[Es,f3];rfl
   ·rw[Es,f4];rfl
   ·rw[Es,f5];rfl
   ·rw[fh,hR0,hZ,hA,hB];rfl
 ·simp[AA 303 1,AS,hR0,hZ,hA,hB]
end
end Go.Va
