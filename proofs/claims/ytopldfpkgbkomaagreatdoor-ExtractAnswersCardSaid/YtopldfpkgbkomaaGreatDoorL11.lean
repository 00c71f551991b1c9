/- Laws that ExtractAnswers leans on, part 11. No condition of its own. -/
import Derived.Test.YtopldfpkgbkomaaGreatDoorL08
set_option linter.all false
set_option maxRecDepth 100000
set_option maxHeartbeats 4000000
noncomputable section
namespace Go.Va
open Go.Proofs
theorem OT (ps:List (Int×List Int)) (k:Int):(DV ps k).isSome=true↔∃p∈ps,p.1=k:=by
 simp only[DV,Option.isSome_map,List.find?_isSome]
 constructor
 ·rintro⟨p,h1,h2⟩;exact⟨p,h1,by simpa using h2⟩
 ·rintro⟨p,h1,h2⟩;exact⟨p,h1,by simpa using h2⟩
theorem Vn (ps:List (Int×List Int)) (a s:Int):(ps.any λp=>decide (a≤p.1∧p.1 <a+s))=true↔∃k,a≤k∧k <a+s∧(DV ps k).isSome=true:=by
 rw[qN]
 constructor
 ·rintro⟨p,h1,h2⟩;simp at h2;exact⟨p.1,h2.1,h2.2,(OT ps _).2 ⟨p,h1,rfl⟩⟩
 ·rintro⟨k,h1,h2,h3⟩;obtain⟨p,hp,rfl⟩:=(OT ps _).1 h3;exact⟨p,hp,by simpa using ⟨h1,h2⟩⟩
theorem RM {a b:Option Int} {v:Int} (h:EX a b=some v):v=Ln [98,108,111,99,107] [IntKind.i64.wrap (a.getD 0),IntKind.i64.wrap (b.getD 0)]:=by
 cases a<;>cases b<;>simp_all [EX]
theorem dQ (h:List Row) (r:Nat) (ps:List (Int×List Int)) (hr:h[r]?=some (G0 ps)) (hl:ps.length≤2^40) (hok:∀p∈ps,PY p):∀(l:Nat) (n:Int),l≤12→0≤n→(n+1)*2^l≤4096→
  FX 58 [.ref r 0,.v (.int .i64 (n*2^l)),.v (.int .i64 (2^l))] h [.v (.int .u64 ((bH (DV ps) l n).getD 0)),.v (.bool (bH (DV ps) l n).isSome)] h
 |0,n,_,h0,h1=>by
  have:=ek h r ps hr hl hok n ⟨h0,by simp at h1;omega⟩;simpa[bH]using this
 |l+1,n,hl12,h0,h1=>by
  refine Dh 58 ?_;have hp:(1:Int)≤2^l:=pq (by decide);have e0:(2:Int)^(l+1)=2*2^l:=by rw[pW,ph]
  have e1:n*2^(l+1)=2*n*2^l:=by rw[e0,←qD,ph n 2]
  have e2:(n+1)*2^(l+1)=(2*n+1+1)*2^l:=by rw[e0,←qD];congr 1;omega
  rw[e2]at h1;have e3:(2*n+1)*(2:Int)^l=2*n*2^l+2^l:=by rw[qg,rV]
  have e4:(2*n+1+1)*(2:Int)^l=2*n*2^l+2^l+2^l:=by rw[qg,e3,rV]
  have hn0:0≤2*n*(2:Int)^l:=qe (by omega) (by omega);have q1:=dQ h r ps hr hl hok l (2*n) (by omega) (by omega) (by omega);have q2:=dQ h r ps hr hl hok l (2*n+1) (by omega) (by omega) (by omega);have hB:=Ng (DV ps) (l+1) n;have hA:=Vn ps (n*2^(l+1)) (2^(l+1));have e5:n*2^(l+1)+2^(l+1)=(n+1)*2^(l+1):=by rw[qg,rV]
  rw[e5,←hB]at hA;have hL:=nl h r ps hr hl (n*2^(l+1)) (2^(l+1)) ⟨by omega,by omega⟩ ⟨by omega,by omega⟩;have hj:bH (DV ps) (l+1) n=EX (bH (DV ps) l (2*n)) (bH (DV ps) l (2*n+1)):=rfl;have hany:(ps.any λp=>decide (n*2^(l+1)≤p.1∧p.1 <n*2^(l+1)+2^(l+1)))=(bH (DV ps) (l+1) n).isSome:=by
   rw[pt,e5];exact hA
  rw[hany]at hL;have hv:=λv=>RM (a:=bH (DV ps) l (2*n)) (b:=bH (DV ps) l (2*n+1)) (v:=v);rw[←hj]at hv;rw[e1]at hL ⊢;rw[e3]at q2;rw[e0]at hL ⊢;generalize bH (DV ps) (l+1) n=R at*;generalize bH (DV ps) l (2*n)=A at*;generalize bH (DV ps) l (2*n+1)=B at*;generalize 2*n*(2:Int)^l=a at*;generalize (2:Int)^l=p at*;simp only[Ai 58,AE,AF,AM,AA 58 0,AA 58 1,AA 58 2,AQ];simp;refine Ad _ ?_ hL;rintro e ⟨se,sh⟩ ⟨rfl,f0,f1,f2,f8,rfl⟩;simp only[AK,AA 58 10];simp[f0,f1,f2,f8];cases R with
  |none=>simp[AE,AF,AB,AA 58 11,AW 58]
  |some v=>
   have w1:IntKind.i64.wrap p=p:=AL;have w2:IntKind.i64.wrap (a+p)=a+p:=AL;have d1:(2*p).tdiv 2=p:=by rw[rK (by omega)];omega
   have g3:=(eQ ⟨#[98,108,111,99,107]⟩ [IntKind.i64.wrap (A.getD 0),IntKind.i64.wrap (B.getD 0)] (by decide) (by simp)).fsp;have eb:Ag ⟨#[98,108,111,99,107]⟩=[98,108,111,99,107]:=by simp[Ag]
   rw[eb,←hv v rfl]at g3;simp[AH]at g3;simp[AD,AA 58 12,d1,w1];refine⟨_,_,q1,?_⟩;simp[AA 58 13,d1,w1,w2];refine⟨_,_,q2,?_⟩;simp[AA 58 14];refine⟨_,_,g3 _,?_⟩;simp[AB,AW 58]
theorem nS (h:List Row) (r:Nat) (ps:List (Int×List Int)) (hr:h[r]?=some (G0 ps)) (hl:ps.length≤2^40) (hok:∀p∈ps,PY p):
  FX 18 [.ref r 0] h [.v (.int .u64 ((bH (DV ps) 12 0).getD 0))] h:=by
 refine Dh 18 ?_;have q:=dQ h r ps hr hl hok 12 0 (by omega) (by omega) (by decide);have e:(2:Int)^12=4096:=by decide
 rw[e]at q;simp at q;simp only[Ai 18,AE,AF,AA 18 0,AA 18 1,AQ];simp;refine⟨_,_,q,?_⟩;simp[AA 18 2,AB,AW 18]
end Go.Va
