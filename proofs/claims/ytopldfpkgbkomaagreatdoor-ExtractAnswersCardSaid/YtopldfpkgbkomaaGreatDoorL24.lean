/- Laws that ExtractAnswers leans on, part 24. No condition of its own. -/
import Derived.Test.YtopldfpkgbkomaaGreatDoorL20
set_option linter.all false
set_option maxRecDepth 100000
set_option maxHeartbeats 4000000
noncomputable section
namespace Go.Va
open Go.Proofs
def Lt (x:Ivl):List Int:=[Fw x.li,Fw x.lo,x.ln,x.ld,Fw x.hi,Fw x.ho,x.hn,x.hd]
def Su (f:F):List Int:=[f.op,f.n,f.ins.length]++f.ins.flatMap Lt++[(f.kids.length:Int)]
theorem LB (l:List Ivl):(l.flatMap Lt).length=8*l.length:=by
 induction l with
 |nil=>rfl
 |cons v vs ih=>rw[oZ,oL,ih,oj];simp[Lt];omega
theorem ey (f:F) (hl:f.ins.length≤2^20):PX 336 [f.V] [AH .i64 (Su f)]:=by
 refine BJ 336 ?_;obtain⟨op,n,ins,kids⟩:=f;simp only[F.ins]at hl;simp only[Ai 336,AE,AF,AM,AA 336 0,AA 336 1,AA 336 2,AX,AH,F.V_eq];simp;refine AN ins.length (λk=>⟨[(1,.ref 0 0),(3,.own 3 1 ((op::n::(ins.length:Int)::(ins.take k).flatMap Lt).map (.int .i64))),(4,.v (.int .i64 k))],.cells [.v (.int .i64 op),.v (.int .i64 n),.v (.list (ins.map Ivl.V)),.v (.list (kids.map F.V))]::(ins.take k).map Ivl.row⟩) (by simp) ?_;intro k hkl;simp only[Zw,A8 336 0,AA 336 3];by_cases h1:k <ins.length
 ·obtain⟨x,hx⟩:∃x,ins[k]?=some x:=⟨_,oI h1⟩;have w1:=Bb k;have h2:(k:Int) <ins.length:=by omega
  have hn:(ins.take (k+1)).flatMap Lt=(ins.take k).flatMap Lt++Lt x:=by
   rw[oW,hx,pm];simp
  have hlen:=LB (ins.take k);rw[ol]at hlen;rw[hn];have hn2:(ins.take (k+1)).map Ivl.row=(ins.take k).map Ivl.row++[x.row]:=by
   rw[oW,hx,oh];rfl
  have hlen2:((ins.take k).map Ivl.row).length=k:=by rw[oi,ol];omega
  rw[hn2];generalize (ins.take k).flatMap Lt=L at*;generalize (ins.take k).map Ivl.row=H at*;have g1:=OB x.li;have g2:=OB x.lo;have g3:=OB x.hi;have g4:=OB x.ho;have hroom:AU (L.length+3+8) 8=true:=by simp[AU];omega
  simp[h2,AD];simp only[AS,AA 336 5,AA 336 6];simp[hx,Ivl.V,AO];refine⟨_,_,⟨rfl,rfl⟩,_,g1,?_⟩;simp;refine⟨_,_,⟨rfl,rfl⟩,_,g2,?_⟩;simp;refine⟨_,_,⟨rfl,rfl⟩,_,g3,?_⟩;simp;refine⟨_,_,⟨rfl,rfl⟩,_,g4,?_⟩;simp[hroom,AA 336 4,w1,h1,Lt,Ivl.row]
 ·have hk2:k=ins.length:=by omega
  subst hk2;rw[od];have hlen:=LB ins;simp only[Su,F.op,F.n,F.ins,F.kids];generalize ins.flatMap Lt=L at*;have hroom:AU (L.length+1+1+1+1) 8=true:=by simp[AU];omega
  simp[AJ];simp[AA 336 7,AB,AW 336,hroom]
theorem lC:CL Tryz.prog Ah 168 2 (cS 4 true [0,0,0,0]) [.t 4]=true:=by kernel_rfl
theorem lA:CL Tryz.prog Ah 169 2 (cS 3 true [0,0,0]) [.t 4]=true:=by kernel_rfl
theorem jC (l:List Dat) (hl:l.length≤2^40):PX 168 [.list (l.map Dat.V),.list (l.map Dat.V)] [.bool true]:=
 pS lC _ (by simpa using hl) λx hx=>by
  obtain⟨m,_,rfl⟩:=oP.1 hx;exact⟨_,rfl,rfl,by simp[V.eqL,V.eq1]⟩
theorem jB (l:List Own) (hl:l.length≤2^40):PX 169 [.list (l.map Own.V),.list (l.map Own.V)] [.bool true]:=
 pS lA _ (by simpa using hl) λx hx=>by
  obtain⟨m,_,rfl⟩:=oP.1 hx;exact⟨_,rfl,rfl,by simp[V.eqL,V.eq1]⟩
def F.sm (f:F):Prop:=∀g∈f.nodes,g.ins.length≤2^20∧g.kids.length≤2^20
theorem fK (f:F):f.sm→PX 315 [f.V,f.V] [.int .i64 0]:=by
 induction f using F.ind with
 |h op n ins kids ih=>
  intro hf;have hf0:=hf (.mk op n ins kids) (by rw[F.nodes_eq];exact rG);refine BJ 315 ?_;have q:=(ey (.mk op n ins kids) hf0.1).fsp;have hlen:(Su (.mk op n ins kids)).length≤2^30:=by
   have h1:=LB ins;have h2:=hf0.1;simp only[Su,oL,F.ins,h1]at h2 ⊢;simp only[oj,qP];omega
  generalize Su (.mk op n ins kids)=L at*;simp only[F.V_eq,AH]at*;simp at q;simp only[Ai 315,AE,AF,AM,AA 315 0,AA 315 1,AX];simp;refine⟨_,_,q _,?_⟩;simp only[AA 315 2];simp;refine⟨_,_,q _,?_⟩;simp only[AA 315 3];simp;refine AN L.length (λk=>⟨[(2,.ref 0 0),(3,.ref 1 0),(5,.v (.list (L.map (.int .i64)))),(6,.v (.list (L.map (.int .i64)))),(7,.v (.int .i64 k))],
   [.cells [.v (.int .i64 op),.v (.int .i64 n),.v (.list (ins.map Ivl.V)),.v (.list (kids.map F.V))],.cells [.v (.int .i64 op),.v (.int .i64 n),.v (.list (ins.map Ivl.V)),.v (.list (kids.map F.V))]]⟩) (by simp) ?_
  intro k hkl;simp only[Zw,A8 315 0,AA 315 4];by_cases h1:k <L.length
  ·obtain⟨x,hx⟩:∃x,L[k]?=some x:=⟨_,oI h1⟩;have w1:=Bb k;have h2:(k:Int) <L.length:=by omega
   simp[h2,AD];simp only[AS,AA 315 6];simp[hx];simp only[AA 315 8];simp[hx];simp[AA 315 5,w1,h1]
  ·have hk2:k=L.length:=by omega
   subst hk2;simp[AJ];simp[AA 315 10];refine AN kids.length (λk=>⟨[(2,.ref 0 0),(3,.ref 1 0),(8,.v (.int .i64 k))],
    [.cells [.v (.int .i64 op),.v (.int .i64 n),.v (.list (ins.map Ivl.V)),.v (.list (kids.map F.V))],.cells [.v (.int .i64 op),.v (.int .i64 n),.v (.list (ins.map Ivl.V)),.v (.list (kids.map F.V))]]⟩) (by simp) ?_
   intro k hkl;simp only[Zw,A8 315 1,AA 315 11];by_cases h1:k <kids.length
   ·obtain⟨x,hx⟩:∃x,kids[k]?=some x:=⟨_,oI h1⟩;have hxm:=oK hx;have hle:=hf0.2;simp only[F.kids]at hle;have w1:=Bb k;have h2:(k:Int) <kids.length:=by omega
    have qx:=ih x hxm λg hg=>hf g (by rw[F.nodes_eq];exact qZ _ (pP.2 ⟨x,hxm,hg⟩));obtain⟨xo,xn,xi,xk⟩:=x;simp only[F.V_eq]at qx;simp[h2,AD];simp only[AS,AA 315 13];simp[hx,F.V_eq];refine⟨_,_,⟨rfl,rfl⟩,_,qx,?_⟩;simp[AA 315 14,AA 315 12,w1,h1]
   ·have hk2:k=kids.length:=by omega
    subst hk2;simp[AJ];simp[AA 315 16,AB,AW 315]
theorem gK (f:F) (hf:f.sm):PX 267 [f.V,f.V] [.bool true]:=by
 refine BJ 267 ?_;have q:=(fK f hf).fsp;obtain⟨op,n,ins,kids⟩:=f;simp only[F.V_eq]at*;simp at q;simp only[Ai 267,AE,AF,AA 267 0,AA 267 1,AX];simp;refine⟨_,_,q _,?_⟩;simp[AB,AW 267]
theorem jD (l:List Clm) (hl:l.length≤2^40) (h:∀c∈l,c.refs.length≤2^40∧c.body.sm):PX 167 [.list (l.map Clm.V),.list (l.map Clm.V)] [.bool true]:=by
 refine BJ 167 ?_;simp only[Zw,Ai 167,AA 167 0,AA 167 1,AX];simp[AD,AA 167 3];refine AN l.length (λk=>⟨[(0,.v (.list (l.map Clm.V))),(1,.v (.list (l.map Clm.V))),(5,.v (.int .i64 k))],[]⟩) (by simp) ?_;intro k hkl;simp only[Zw,A8 167 0,AA 167 4];simp;by_cases h1:k <l.length
 ·obtain⟨x,hxk⟩:∃x,l[k]?=some x:=⟨_,oI h1⟩;have w1:=Bb k;obtain⟨hr,hb⟩:=h x (oK hxk);have q1:=eT x.refs hr;have q2:=gK x.body hb;obtain⟨refs,op,n,ins,kids⟩:=x;simp only[F.V_eq,AH]at*;rw[if_pos (by omega),AD];simp only[AS,AA 167 6];simp[hxk,Clm.V,F.op,F.n,F.ins,F.kids,AH];refine⟨_,_,⟨rfl,rfl⟩,_,q1,?_⟩;simp[hxk,Clm.V,F.op,F.n,F.ins,F.kids,AH];refine⟨_,_,⟨rfl,rfl⟩,_,q2,?_⟩;simp[AD,AA 167 5,w1,h1]
 ·have hk2:k=l.length:=by omega
  subst hk2;rw[if_neg (by omega),AJ];simp[AA 167 8,AB,AW 167]
theorem mm (r:Rgt) (h1:r.claims.length≤2^40) (h2:∀c∈r.claims,c.refs.length≤2^40∧c.body.sm) (h3:r.dates.length≤2^40) (h4:r.bad.length≤2^40) (h5:r.owners.length≤2^40) (h6:r.lics.length≤2^40):
  PX 78 [r.V,r.V] [.bool true]:=by
 refine BJ 78 ?_;have q1:=(jD r.claims h1 h2).fsp;have q2:=(jC r.dates h3).fsp;have q3:=(eT r.bad h4).fsp;have q4:=(jB r.owners h5).fsp;have q5:=(jA r.lics h6).fsp;simp[AH]at q1 q2 q3 q4 q5;simp only[Ai 78,AE,AF,AK,AA 78 0,AA 78 1,AX,Rgt.V,Rgt.cs,AH];simp;refine⟨_,_,q1 _,?_⟩;simp[AD];simp only[AA 78 3];simp;refine⟨_,_,q2 _,?_⟩;simp;refine⟨_,_,q3 _,?_⟩;simp;refine⟨_,_,q4 _,?_⟩;simp;refine⟨_,_,q5 _,?_⟩;simp[AB,AW 78]
end Go.Va
