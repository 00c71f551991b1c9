/- Laws that ExtractAnswers leans on, part 27. No condition of its own. -/
import Derived.Test.YtopldfpkgbkomaaGreatDoorL25
set_option linter.all false
set_option maxRecDepth 100000
set_option maxHeartbeats 4000000
noncomputable section
namespace Go.Va
open Go.Proofs
def Vh (x:Ivl) (n d:Int):Bool:= !x.li&&(G9 n d x.ln x.ld||(decide (n=x.ln∧d=x.ld)&&x.lo))
def Vr (x:Ivl) (n d:Int):Bool:= !x.hi&&(G9 x.hn x.hd n d||(decide (n=x.hn∧d=x.hd)&&x.ho))
theorem HO {a b c d:Int} (h1:EA a b=true) (h2:EA c d=true):decide (Gc a b c d <0)=G9 a b c d∧decide (Gc a b c d=0)=decide (a=c∧b=d)∧decide (0 <Gc a b c d)=G9 c d a b:=by
 have r:=K2 h1 h2;unfold Gc Ot G9;rw[h1,h2];simp only[Bool.and_self,if_true];by_cases c1:a*d <c*b
 ·have:¬c*b <a*d:=by omega
  have:¬(a=c∧b=d):=by rintro⟨rfl,rfl⟩;omega
  simp[*]
 ·by_cases c2:c*b <a*d
  ·have:¬(a=c∧b=d):=by rintro⟨rfl,rfl⟩;omega
   simp[*]
  ·have:=r (by omega);simp[*]
theorem VI {x:Ivl} (gx:EY x=true) {n d:Int} (h:EA n d=true):(!Vh x n d&& !Vr x n d)=Hx x n d:=by
 have q1:=I4 gx;have q2:=I3 gx;obtain⟨ln,ld,hn,hd,lo,ho,li,hi⟩:=x;unfold Vh Vr Hx;simp only at*;cases li with
 |false=>
  obtain⟨e1,e2,_⟩:=HO h (Ce (q2 rfl));rw[e1,e2];cases hi with
  |false=>
   obtain⟨_,e4,e5⟩:=HO h (Ce (q1 rfl));rw[e4,e5];simp
  |true=>simp
 |true=>
  cases hi with
  |false=>
   obtain⟨_,e4,e5⟩:=HO h (Ce (q1 rfl));rw[e4,e5];simp
  |true=>simp
theorem fA (x:Ivl) (gx:EY x=true) (n d:Int) (h:EA n d=true):PX 333 [x.V,A0 n d] [.bool (Hx x n d)]:=by
 refine BJ 333 ?_;rw[←VI gx h];have q1:=λhh=>(Un x.hn x.hd n d (Ce (I4 gx hh)) h).fsp;have q2:=λhh=>(Un n d x.ln x.ld h (Ce (I3 gx hh))).fsp;obtain⟨A,hA⟩:∃A,Vh x n d=A:=⟨_,rfl⟩;obtain⟨B,hB⟩:∃B,Vr x n d=B:=⟨_,rfl⟩;rw[hA,hB];unfold Vh at hA;unfold Vr at hB;clear gx;obtain⟨ln,ld,hn,hd,lo,ho,li,hi⟩:=x;simp only[A0]at*;generalize G9 n d ln ld=L1 at*;generalize G9 hn hd n d=L2 at*
 let J:List Row:=[.cells [.v (.int .i64 ln),.v (.int .i64 ld),.v (.int .i64 hn),.v (.int .i64 hd),.v (.bool lo),.v (.bool ho),.v (.bool li),.v (.bool hi)],.cells [.v (.int .i64 n),.v (.int .i64 d)]]
 have fin:∀(Q:AExit→St→Prop),Q .ret ⟨[(4,.v (.bool (!A&& !B)))],J⟩→awp Tryz.prog Ah (.seq (.reg (oG 333 3) [4]) .ret) Q ⟨[(5,.v (.bool A)),(6,.v (.bool B))],J⟩:=by
  intro Q hQ;simp only[AE,AF,AA 333 3];cases A<;>cases B<;>simpa[AB]using hQ
 have st2:∀(Q:AExit→St→Prop),Q .ret ⟨[(4,.v (.bool (!A&& !B)))],J⟩→awp Tryz.prog Ah (.seq (.reg (oG 333 2) [5,6]) (.seq (.reg (oG 333 3) [4]) .ret)) Q ⟨[(2,.ref 0 0),(3,.ref 1 0),(5,.v (.bool A))],J⟩:=by
  intro Q hQ;have hf:=fin Q hQ;rw[AE,AF];simp only[AA 333 2,J]at hf ⊢;cases hi with
  |true=>
   simp at hB;subst hB;simpa using hf
  |false=>
   have q1:=q1 rfl;simp at q1;simp;refine⟨_,_,q1 _,?_⟩;cases L2 with
   |true=>
    simp at hB;subst hB;simpa using hf
   |false=>
    simp at hB;by_cases c1:n=hn
    ·by_cases c2:d=hd
     ·subst c1 c2;simp at hB;subst hB;simpa[V.eqL,V.eq1]using hf
     ·simp[c2]at hB;subst hB;simpa[V.eqL,V.eq1,c1,c2]using hf
    ·simp[c1]at hB;subst hB;simpa[V.eqL,V.eq1,c1]using hf
 simp only[Ai 333];rw[AE,AF];simp only[AA 333 0,AX];simp[Ivl.V];rw[AE,AF];simp only[AA 333 1];have hfin:=λQ=>st2 Q;simp only[J]at hfin;cases li with
 |true=>
  simp at hA;subst hA;simp;refine hfin _ ?_;simp[AW 333]
 |false=>
  have q2:=q2 rfl;simp at q2;simp;refine⟨_,_,q2 _,?_⟩;cases L1 with
  |true=>
   simp at hA;subst hA;simp;refine hfin _ ?_;simp[AW 333]
  |false=>
   simp at hA;by_cases c1:n=ln
   ·by_cases c2:d=ld
    ·subst c1 c2;simp at hA;subst hA;simp[V.eqL,V.eq1];refine hfin _ ?_;simp[AW 333]
    ·subst c1;simp[c2]at hA;subst hA;simp[V.eqL,V.eq1,c2];refine hfin _ ?_;simp[AW 333]
   ·simp[c1]at hA;subst hA;simp[V.eqL,V.eq1,c1];refine hfin _ ?_;simp[AW 333]
theorem fM (l:List Ivl) (hl:∀x∈l,x.ok) (hn:l.length≤2^40) (n d:Int) (h1:i64 n) (h2:i64 d):PX 313 [.list (l.map Ivl.V),A0 n d] [.bool (Pn l n d)]:=by
 refine BJ 313 ?_;obtain⟨R,hR⟩:∃R,Pn l n d=R:=⟨_,rfl⟩;rw[hR];unfold Pn at hR;have q1:=(XW n d h1 h2).fsp;simp only[A0]at q1;simp at q1;simp only[Zw,Ai 313,AA 313 0,AA 313 1,AX,A0];simp;refine⟨_,_,q1 _,?_⟩;cases ho:EA n d with
 |false=>
  rw[ho]at hR;simp at hR;simp[AB,AA 313 2,AW 313,hR]
 |true=>
  rw[ho]at hR;simp only[pB]at hR;simp[AD,AA 313 3];refine Al l.length (λk=>⟨[(0,.v (.list (l.map Ivl.V))),(3,.ref 0 0),(5,.v (.int .i64 k))],[.cells [.v (.int .i64 n),.v (.int .i64 d)]]⟩) (λk=>∀x∈l.take k,(Dv x&&Hx x n d)=false) (by simp) (by simp) ?_;intro k hk hI;simp only[Zw,A8 313 0,AA 313 4];simp;by_cases hlt:k <l.length
  ·obtain⟨x,hx⟩:∃x,l[k]?=some x:=⟨_,oI hlt⟩;have hxm:=oK hx;have w1:=Bb k;have good:(Dv x&&Hx x n d)=true→R=true:=λh=>by
    rw[←hR,qN];exact⟨x,hxm,h⟩
   have bad:(Dv x&&Hx x n d)=false→∀y∈l.take (k+1),(Dv y&&Hx y n d)=false:=λh y hy=>by
    rw[oW,hx]at hy;simp only[Option.toList_some,oc,oS]at hy;rcases hy with hy|rfl
    ·exact hI y hy
    ·exact h
   have q2:=(Zc x (hl x hxm)).fsp;have q3:=λgx=>fA x gx n d ho;rw[Fq]at q2 q3;rw[if_pos (by omega),AD];simp only[AS,AA 313 6];generalize Dv x=g at*;generalize Hx x n d=b at*;obtain⟨ln,ld,hn,hd,lo,ho,li,hi⟩:=x;simp[Ivl.V,A0]at q2 q3;simp[hx,Ivl.V];refine⟨_,_,q2 _,?_⟩;simp only[AA 313 7];cases g with
   |false=>
    have bad:=bad rfl;simp[AD,AA 313 5,w1,hlt];exact λx hx h=>by simpa[h]using bad x hx
   |true=>
    simp[hx,Ivl.V];refine⟨_,_,⟨rfl,rfl⟩,_,(q3 rfl),?_⟩;cases b with
    |false=>
     have bad:=bad rfl;simp[AD,AA 313 5,w1,hlt];exact λx hx h=>by simpa[h]using bad x hx
    |true=>
     simp[AB,AA 313 8,AW 313,good rfl]
  ·have hk2:k=l.length:=by omega
   subst hk2;rw[if_neg (by omega),AJ];have:R=false:=by rw[←hR,pu];simpa using hI
   simp[AB,AA 313 9,AW 313,this]
theorem fN (t:Th) (ht:t.ok) (n:Int):PX 312 [t.V,.int .i64 n] [A0 (Fy t n).1 (Fy t n).2,.bool (Kq t n).isSome]:=by
 obtain⟨cs,vs,ps⟩:=t;obtain⟨_,h2,_,_,_⟩:=ht;refine BJ 312 ?_;unfold Fy;obtain⟨o,ho⟩:∃o,Kq (.mk cs vs ps) n=o:=⟨_,rfl⟩;rw[ho];unfold Kq at ho;simp only[Th.vs]at ho;simp only[Ai 312,AE,AF,AM,AA 312 0,AA 312 1,AX];simp[Th.V_eq];refine Al vs.length (λk=>⟨[(1,.v (.int .i64 n)),(2,.ref 0 0),(4,.ref 1 0),(6,.v (.int .i64 k))],[.cells (Th.mk cs vs ps).cells,.cells [.v (.int .i64 0),.v (.int .i64 0)]]⟩) (λk=>(vs.drop k).find? (λx=>x.a==n)=o) (by simp[Th.cells,Th.cs,Th.vs,Th.ps]) (by simpa using ho) ?_;intro k hk hI;simp only[Zw,A8 312 0,AA 312 2,Th.cells,Th.cs,Th.vs,Th.ps];simp;by_cases hlt:k <vs.length
 ·obtain⟨x,hx⟩:∃x,vs[k]?=some x:=⟨_,oI hlt⟩;have w1:=Bb k;rw[EV hx,List.find?_cons]at hI;rw[if_pos (by omega),AD];simp only[AA 312 4];simp[hx,Val.V];by_cases he:x.a=n
  ·simp[he]at hI;subst hI;simp[he,AA 312 5,AB,hx,Val.V,AO,AW 312,A0,D.vs?,D.v?]
  ·have he':(x.a==n)=false:=by simpa using he
   rw[he']at hI;simp[he,AD,AA 312 3,w1,hlt];exact hI
 ·have hk2:k=vs.length:=by omega
  subst hk2;simp at hI;subst hI;rw[if_neg (by omega),AJ];simp[AB,AA 312 6,AW 312,AO,A0,D.vs?,D.v?]
theorem Qx (nc:Int) (op n:Int) (ins:List Ivl) (kids:List F):(F.mk op n ins kids).nodes.all (Gn nc)=(Gn nc (.mk op n ins kids)&&kids.all λk=>k.nodes.all (Gn nc)):=by
 rw[F.nodes_eq,qU,List.all_flatMap]
theorem gP (nc:Int):∀f:F,f.ok→PX 263 [f.V,.int .i64 nc] [.bool (f.nodes.all (Gn nc))]:=by
 refine F.ind λop n ins kids ih hok=>?_;refine BJ 263 ?_;obtain⟨R,hR⟩:∃R,(F.mk op n ins kids).nodes.all (Gn nc)=R:=⟨_,rfl⟩;rw[hR];rw[Qx]at hR;have hsz:=hok.2;rw[F.size_eq]at hsz;have hkl:=F.kids_len kids;obtain⟨K,hK⟩:∃K,Gn nc (.mk op n ins kids)=K:=⟨_,rfl⟩;rw[hK]at hR;have hK':K= !(decide (op=1)&&decide (nc≤n)):=hK.symm;have step:∀(Q:AExit→St→Prop),(K=false→Q .ret ⟨[(4,.v (.bool false))],[.cells (F.mk op n ins kids).cells]⟩)→(K=true→Q .normal ⟨[(1,.v (.int .i64 nc)),(2,.ref 0 0),(14,.v (.bool false))],[.cells (F.mk op n ins kids).cells]⟩)→
   awp Tryz.prog Ah (.seq (.reg (oG 263 1) [1,2,14]) (.cond (.t 14 false) (.seq (.reg (oG 263 2) [4]) .ret) .skip)) Q ⟨[(1,.v (.int .i64 nc)),(2,.ref 0 0)],[.cells (F.mk op n ins kids).cells]⟩:=by
  intro Q h1 h2;simp only[AE,AF,AK,AA 263 1,F.cells,F.op,F.n,F.ins,F.kids]at*;by_cases c1:op=1
  ·by_cases c2:nc≤n
   ·have hf:K=false:=by rw[hK'];simp[c1,c2]
    simpa[c1,c2,AE,AF,AB,AA 263 2]using h1 hf
   ·have hf:K=true:=by rw[hK'];simp[c2]
    simpa[c1,c2,AD]using h2 hf
  ·have hf:K=true:=by rw[hK'];simp[c1]
   simpa[c1,AD]using h2 hf
 simp only[Ai 263];rw[AE,AF];simp only[AA 263 0,AX];simp[F.V_eq];rw[AE];simp only[F.cells,F.op,F.n,F.ins,F.kids]at step;refine step _ ?_ ?_
 ·rintro rfl;simp at hR;simp[AW 263,hR]
 ·rintro rfl;simp only[pB]at hR;simp[AE,AM,AF,AA 263 3];refine Al kids.length (λk=>⟨[(1,.v (.int .i64 nc)),(2,.ref 0 0),(5,.v (.int .i64 k))],[.cells (F.mk op n ins kids).cells]⟩) (λk=>∀x∈kids.take k,x.nodes.all (Gn nc)=true) (by simp[F.cells,F.op,F.n,F.ins,F.kids]) (by simp) ?_;intro k hk hI;simp only[Zw,A8 263 0,AA 263 4,F.cells,F.op,F.n,F.ins,F.kids];simp;by_cases h1:k <kids.length
  ·obtain⟨x,hx⟩:∃x,kids[k]?=some x:=⟨_,oI h1⟩;have hxm:=oK hx;have hw:=Bb k;have p1:=(ih x hxm (F.ok_kid hok hxm)).fsp;have bad:x.nodes.all (Gn nc)=false→R=false:=λh=>by
    rw[←hR,List.all_eq_false];exact⟨x,hxm,by simp[h]⟩
   have good:x.nodes.all (Gn nc)=true→∀y∈kids.take (k+1),y.nodes.all (Gn nc)=true:=λh y hy=>by
    rw[oW,hx]at hy;simp only[Option.toList_some,oc,oS]at hy;rcases hy with hy|rfl
    ·exact hI y hy
    ·exact h
   rw[if_pos (by omega),AD];simp only[AA 263 6];generalize x.nodes.all (Gn nc)=g at*;obtain⟨xo,xn,xi,xk⟩:=x;simp[F.V_eq]at p1;simp[hx,F.V_eq];refine⟨_,_,p1 _,?_⟩;cases g with
   |false=>simp[AB,AA 263 7,AW 263,bad rfl]
   |true=>
    have good:=good rfl;simp only[oY]at good;simp[AD,AA 263 5,hw,h1];exact good
  ·have hk2:k=kids.length:=by omega
   subst hk2;rw[if_neg (by omega),AJ];have:R=true:=by rw[←hR,oY];simpa using hI
   simp[AB,AA 263 8,AW 263,this]
theorem gO (nc:Int):∀t:Th,t.ok→PX 264 [t.V,.int .i64 nc] [.bool (t.kinds nc)]:=by
 refine Th.ind λcs vs ps ih hok=>?_;obtain⟨ok1,ok2,ok3,ok4,ok5⟩:=hok;refine BJ 264 ?_;obtain⟨R,hR⟩:∃R,(Th.mk cs vs ps).kinds nc=R:=⟨_,rfl⟩;rw[hR];rw[Th.kinds,FD]at hR;simp only[Ai 264,AE,AF,AM,AA 264 0,AA 264 1,AX];simp[Th.V_eq];refine Al cs.length (λk=>⟨[(1,.v (.int .i64 nc)),(2,.ref 0 0),(5,.v (.int .i64 k))],[.cells (Th.mk cs vs ps).cells]⟩) (λk=>∀x∈cs.take k,x <nc) (by simp[Th.cells,Th.cs,Th.vs,Th.ps]) (by simp) ?_;intro k hk hI;simp only[Zw,A8 264 0,AA 264 2,Th.cells,Th.cs,Th.vs,Th.ps,AH];simp;by_cases h1:k <cs.length
 ·obtain⟨x,hx⟩:∃x,cs[k]?=some x:=⟨_,oI h1⟩;have hxm:=oK hx;have hw:=Bb k;rw[if_pos (by omega),AD];simp only[AA 264 4];simp[hx];by_cases c1:nc≤x
  ·have:R=false:=by
    rw[←hR,Bool.and_eq_false_iff];left;rw[List.all_eq_false];exact⟨x,hxm,by simpa using c1⟩
   simp[c1,AB,AA 264 5,AW 264,this]
  ·have good:∀y∈cs.take (k+1),y <nc:=λy hy=>by
    rw[oW,hx]at hy;simp only[Option.toList_some,oc,oS]at hy;rcases hy with hy|rfl
    ·exact hI y hy
    ·omega
   simp[c1,AD,AA 264 3,hw,h1];exact good
 ·have hk2:k=cs.length:=by omega
  subst hk2;have hA:(cs.all λc=> !decide (nc≤c))=true:=by
   rw[oY];intro x hx;have:=hI x (by simpa using hx);simp;omega
  rw[hA,pB]at hR;rw[if_neg (by omega),AJ];simp[AA 264 6];refine Al ps.length (λk=>⟨[(1,.v (.int .i64 nc)),(2,.ref 0 0),(6,.v (.int .i64 k))],[.cells (Th.mk cs vs ps).cells]⟩) (λk=>∀x∈ps.take k,x.kinds nc=true) (by simp[Th.cells,Th.cs,Th.vs,Th.ps,AH]) (by simp) ?_;intro k hk hI;simp only[Zw,A8 264 1,AA 264 7,Th.cells,Th.cs,Th.vs,Th.ps,AH];simp;by_cases h1:k <ps.length
  ·obtain⟨x,hx⟩:∃x,ps[k]?=some x:=⟨_,oI h1⟩;have hxm:=oK hx;have hw:=Bb k;have p1:=(ih x hxm (ok5 x hxm)).fsp;have bad:x.kinds nc=false→R=false:=λh=>by
    rw[←hR,List.all_eq_false];exact⟨x,hxm,by simp[h]⟩
   have good:x.kinds nc=true→∀y∈ps.take (k+1),y.kinds nc=true:=λh y hy=>by
    rw[oW,hx]at hy;simp only[Option.toList_some,oc,oS]at hy;rcases hy with hy|rfl
    ·exact hI y hy
    ·exact h
   rw[if_pos (by omega),AD];simp only[AA 264 9];generalize x.kinds nc=g at*;obtain⟨xc,xv,xp⟩:=x;simp[Th.V_eq,AH]at p1;simp[hx,Th.V_eq,AH];refine⟨_,_,p1 _,?_⟩;cases g with
   |false=>simp[AB,AA 264 10,AW 264,bad rfl]
   |true=>
    simp[AD,AA 264 8,hw,h1];exact good rfl
  ·have hk2:k=ps.length:=by omega
   subst hk2;rw[if_neg (by omega),AJ];have:R=true:=by rw[←hR,oY];simpa using hI
   simp[AB,AA 264 11,AW 264,this]
section
theorem TG {l:List Int} {m:Int} (h:Ee l m=true) {x:Int} (hx:x∈l):0≤x:=by
 obtain⟨k,hk,hxk⟩:=List.getElem_of_mem hx;rcases (show x <0∨0≤x by omega)with c|c
 ·have hb:C4 l m k=true:=by
   unfold C4;rw[decide_eq_true_iff];left;simp[List.getD,oI hk,hxk,c]
  unfold Ee at h;rw[D3 hk hb]at h;cases h
 ·exact c
variable {k:Nat}
theorem HU {α:Type} {l:List α} {x:α} (hx:l[k]?=some x) {p:α→Bool} (hI:∀y∈l.take k,p y=false) (h:p x=false):∀y∈l.take (k+1),p y=false:=by
 intro y hy;rw[oW,hx]at hy;simp only[Option.toList_some,oc,oS]at hy;rcases hy with hy|rfl
 ·exact hI y hy
 ·exact h
variable {nc:Int} {pa:List V}
theorem gM {I:Int→Int→Bool} (hI:∀a b,0≤a→a <nc→0≤b→b <nc→PX 311 [.list pa,.int .i64 a,.int .i64 b] [.bool (I a b)]):
  ∀f:F,f.ok→f.nodes.all Az=true→f.nodes.all (Gn nc)=true→∀t:Th,t.ok→t.formed=true→t.kinds nc=true→PX 265 [.list pa,f.V,t.V] [.bool (f.hold I t)]:=by
 refine F.ind λop n ins kids ih hok hfm hoc t ht htf htk=>?_;obtain⟨cs,vs,ps⟩:=t;have hq312:=fN _ ht n;have hvt:i64 (Fy (.mk cs vs ps) n).1∧i64 (Fy (.mk cs vs ps) n).2:=by
  unfold Fy;cases h:Kq (.mk cs vs ps) n with
  |none=>exact⟨by unfold i64;decide,by unfold i64;decide⟩
  |some x=>
   obtain⟨_,_,_,h4,_⟩:=ht;exact⟨(h4 x (List.mem_of_find?_eq_some h)).2.1,(h4 x (List.mem_of_find?_eq_some h)).2.2⟩
 have ht':=ht;obtain⟨ok1,ok2,ok3,ok4,ok5⟩:=ht';have htf':=htf;have htk':=htk;rw[Th.formed,EZ]at htf;rw[Th.kinds,FD]at htk;simp only[oJ,oY]at htf htk;obtain⟨f1,f2,f3,f4⟩:=htf;obtain⟨g1,g2⟩:=htk;have hok1:=F.ok1_self hok;have hsz:=hok.2;rw[F.size_eq]at hsz;have hkl:=F.kids_len kids;rw[show (F.mk op n ins kids).nodes.all Az=(Az (.mk op n ins kids)&&kids.all EC) from MD op n ins kids]at hfm;rw[Qx]at hoc;simp only[oJ,oY]at hfm hoc;obtain⟨m1,m2⟩:=hfm;obtain⟨o1,o2⟩:=hoc;have ihk:∀k∈kids,∀t:Th,t.ok→t.formed=true→t.kinds nc=true→PX 265 [.list pa,k.V,t.V] [.bool (k.hold I t)]:=λk hk t a b c=>ih k hk (F.ok_kid hok hk) (m2 k hk) (by rw[oY];exact o2 k hk) t a b c;clear ih;refine BJ 265 ?_;obtain⟨R,hR⟩:∃R,(F.mk op n ins kids).hold I (.mk cs vs ps)=R:=⟨_,rfl⟩;rw[hR];unfold F.hold at hR;rw[Jf,Je]at hR;simp only[Th.cs,Th.ps]at hR;simp only[Ai 265,AE,AF,AM,AA 265 0,AA 265 1,AX];simp[F.V_eq,Th.V_eq,AH];by_cases c1:op=1
 ·subst c1;simp at hR;have hn:0≤n∧n <nc:=by
   have h2:¬nc≤n:=λh=>by unfold Gn at o1;simp[F.op,F.n,h]at o1
   unfold Az at m1;simp[F.op,F.n,F.ins,F.kids]at m1;omega
  simp[AA 265 2,AK,AE,AF,AM,AA 265 3];refine Al cs.length (λk=>⟨[(0,.v (.list pa)),(4,.ref 0 0),(5,.ref 1 0),(7,.v (.int .i64 k))],[.cells (F.mk 1 n ins kids).cells,.cells (Th.mk cs vs ps).cells]⟩) (λk=>∀x∈cs.take k,I x n=false) (by simp[F.cells,F.op,F.n,F.ins,F.kids,Th.cells,Th.cs,Th.vs,Th.ps,AH]) (by simp) ?_;intro k hk hI2;simp only[Zw,A8 265 0,AA 265 4,F.cells,F.op,F.n,F.ins,F.kids,Th.cells,Th.cs,Th.vs,Th.ps,AH];simp;by_cases h1:k <cs.length
  ·obtain⟨x,hx⟩:∃x,cs[k]?=some x:=⟨_,oI h1⟩;have hxm:=oK hx;have hw:=Bb k;have hx1:=g1 x hxm;simp at hx1;have q:=hI x n (TG f2 hxm) hx1 hn.1 hn.2;have good:I x n=true→R=true:=λh=>by rw[←hR,qN];exact⟨x,hxm,h⟩
   have bad:=HU (p:=λx=>I x n) hx hI2;rw[if_pos (by omega),AD];simp only[AS,AA 265 6];generalize I x n=g at*;simp[hx];refine⟨_,_,⟨rfl,rfl⟩,_,q,?_⟩;cases g with
   |true=>simp[AB,AA 265 7,AW 265,good rfl]
   |false=>
    simp[AD,AA 265 5,hw,h1];exact bad rfl
  ·have hk2:k=cs.length:=by omega
   subst hk2;rw[if_neg (by omega),AJ];have:R=false:=by rw[←hR,pu];simpa using hI2
   simp[AB,AA 265 8,AW 265,this]
 by_cases c2:op=2
 ·subst c2;simp at hR;simp only[Th.V_eq,AH,A0]at hq312;have q2:=hq312.fsp;simp at q2;have hins:=fM ins hok1.2.2.1 hok1.2.2.2 _ _ hvt.1 hvt.2;simp only[A0]at hins;generalize (Fy (.mk cs vs ps) n).1=a at*;generalize (Fy (.mk cs vs ps) n).2=b at*;generalize (Kq (.mk cs vs ps) n).isSome=g at*;generalize Pn ins a b=hb at*;have q3:=hins.fsp;simp at q3;simp[AA 265 2,AK,AE,AF,AA 265 9];simp only[AA 265 10];simp;refine⟨_,_,q2 _,?_⟩;simp[AO];simp only[AA 265 11];cases g with
  |false=>
   simp at hR;simp[AB,AW 265,hR]
  |true=>
   simp at hR;simp;refine⟨_,_,q3 _,?_⟩;simp[AB,AW 265,hR]
 by_cases c3:op=3
 ·subst c3;have hkids:∃x,kids=[x]:=by
   unfold Az at m1;simp[F.op,F.n,F.ins,F.kids]at m1;exact List.length_eq_one_iff.1 m1.2
  obtain⟨x,rfl⟩:=hkids;simp[F.hold1]at hR;simp[AA 265 2,AK,AE,AF,AM,AA 265 9,AA 265 12,AA 265 13];refine Al ps.length (λk=>⟨[(0,.v (.list pa)),(4,.ref 0 0),(5,.ref 1 0),(10,.v (.int .i64 k))],[.cells (F.mk 3 n ins [x]).cells,.cells (Th.mk cs vs ps).cells]⟩) (λk=>∀y∈ps.take k,x.hold I y=false) (by simp[F.cells,F.op,F.n,F.ins,F.kids,Th.cells,Th.cs,Th.vs,Th.ps,AH]) (by simp) ?_;intro k hk hI2;simp only[Zw,A8 265 1,AA 265 14,F.cells,F.op,F.n,F.ins,F.kids,Th.cells,Th.cs,Th.vs,Th.ps,AH];simp;by_cases h1:k <ps.length
  ·obtain⟨y,hy⟩:∃y,ps[k]?=some y:=⟨_,oI h1⟩;have hym:=oK hy;have hw:=Bb k;have q:=ihk x (by simp) y (ok5 y hym) (f4 y hym) (g2 y hym);have good:x.hold I y=true→R=true:=λh=>by rw[←hR,qN];exact⟨y,hym,h⟩
   have bad:=HU (p:=λy=>x.hold I y) hy hI2;generalize F.hold I x y=g at*;rw[if_pos (by omega),AD];simp only[AS,AA 265 16];obtain⟨xo,xn,xi,xk⟩:=x;obtain⟨yc,yv,yp⟩:=y;simp only[F.V_eq,Th.V_eq,AH]at q;simp[hy,F.V_eq,Th.V_eq,AH];refine⟨_,_,⟨rfl,rfl⟩,_,q,?_⟩;cases g with
   |true=>simp[AB,AA 265 17,AW 265,good rfl]
   |false=>
    simp[AD,AA 265 15,hw,h1];exact bad rfl
  ·have hk2:k=ps.length:=by omega
   subst hk2;rw[if_neg (by omega),AJ];have:R=false:=by rw[←hR,pu];simpa using hI2
   simp[AB,AA 265 18,AW 265,this]
 have qk:=λk hk=>ihk k hk _ ht htf' htk';clear ihk;by_cases c4:op=4
 ·subst c4;simp at hR;simp[AA 265 2,AK,AE,AF,AM,AA 265 9,AA 265 12,AA 265 19,AA 265 20];refine Al kids.length (λk=>⟨[(0,.v (.list pa)),(4,.ref 0 0),(5,.ref 1 0),(11,.v (.int .i64 k))],[.cells (F.mk 4 n ins kids).cells,.cells (Th.mk cs vs ps).cells]⟩) (λk=>∀y∈kids.take k,(!y.hold I (.mk cs vs ps))=false) (by simp[F.cells,F.op,F.n,F.ins,F.kids,Th.cells,Th.cs,Th.vs,Th.ps,AH]) (by simp) ?_;intro k hk hI2;simp only[Zw,A8 265 2,AA 265 21,F.cells,F.op,F.n,F.ins,F.kids,Th.cells,Th.cs,Th.vs,Th.ps,AH];simp;by_cases h1:k <kids.length
  ·obtain⟨y,hy⟩:∃y,kids[k]?=some y:=⟨_,oI h1⟩;have hym:=oK hy;have hw:=Bb k;have q:=qk y hym;have good:y.hold I (.mk cs vs ps)=false→R=false:=λh=>by rw[←hR,List.all_eq_false];exact⟨y,hym,by simp[h]⟩
   have bad:=HU (p:=λy=> !y.hold I (.mk cs vs ps)) hy hI2;generalize F.hold I y (.mk cs vs ps)=g at*;rw[if_pos (by omega),AD];simp only[AS,AA 265 23];obtain⟨yo,yn,yi,yk⟩:=y;simp only[F.V_eq,Th.V_eq,AH]at q;simp[hy,F.V_eq];refine⟨_,_,⟨rfl,rfl⟩,_,q,?_⟩;cases g with
   |false=>simp[AB,AA 265 24,AW 265,good rfl]
   |true=>
    have bad:=bad rfl;simp only[Bool.not_eq_false']at bad;simp[AD,AA 265 22,hw,h1];exact bad
  ·have hk2:k=kids.length:=by omega
   subst hk2;rw[if_neg (by omega),AJ];have:R=true:=by rw[←hR,oY];simpa using hI2
   simp[AB,AA 265 25,AW 265,this]
 by_cases c5:op=5
 ·subst c5;simp at hR;simp[AA 265 2,AK,AE,AF,AM,AA 265 9,AA 265 12,AA 265 19,AA 265 26,AA 265 27];refine Al kids.length (λk=>⟨[(0,.v (.list pa)),(4,.ref 0 0),(5,.ref 1 0),(12,.v (.int .i64 k))],[.cells (F.mk 5 n ins kids).cells,.cells (Th.mk cs vs ps).cells]⟩) (λk=>∀y∈kids.take k,y.hold I (.mk cs vs ps)=false) (by simp[F.cells,F.op,F.n,F.ins,F.kids,Th.cells,Th.cs,Th.vs,Th.ps,AH]) (by simp) ?_;intro k hk hI2;simp only[Zw,A8 265 3,AA 265 28,F.cells,F.op,F.n,F.ins,F.kids,Th.cells,Th.cs,Th.vs,Th.ps,AH];simp;by_cases h1:k <kids.length
  ·obtain⟨y,hy⟩:∃y,kids[k]?=some y:=⟨_,oI h1⟩;have hym:=oK hy;have hw:=Bb k;have q:=qk y hym;have good:y.hold I (.mk cs vs ps)=true→R=true:=λh=>by rw[←hR,qN];exact⟨y,hym,h⟩
   have bad:=HU (p:=λy=>y.hold I (.mk cs vs ps)) hy hI2;generalize F.hold I y (.mk cs vs ps)=g at*;rw[if_pos (by omega),AD];simp only[AS,AA 265 30];obtain⟨yo,yn,yi,yk⟩:=y;simp only[F.V_eq,Th.V_eq,AH]at q;simp[hy,F.V_eq];refine⟨_,_,⟨rfl,rfl⟩,_,q,?_⟩;cases g with
   |true=>simp[AB,AA 265 31,AW 265,good rfl]
   |false=>
    simp[AD,AA 265 29,hw,h1];exact bad rfl
  ·have hk2:k=kids.length:=by omega
   subst hk2;rw[if_neg (by omega),AJ];have:R=false:=by rw[←hR,pu];simpa using hI2
   simp[AB,AA 265 32,AW 265,this]
 by_cases c6:op=6
 ·subst c6;have hkids:∃x,kids=[x]:=by
   unfold Az at m1;simp[F.op,F.n,F.ins,F.kids]at m1;exact List.length_eq_one_iff.1 m1.2
  obtain⟨x,rfl⟩:=hkids;simp[F.hold1]at hR;have q:=qk x (by simp);generalize F.hold I x (.mk cs vs ps)=g at*;obtain⟨xo,xn,xi,xk⟩:=x;simp only[F.V_eq,Th.V_eq,AH]at q;simp[AA 265 2,AK,AE,AF,AA 265 9,AA 265 12,AA 265 19,AA 265 26,AA 265 33];simp only[AS,AA 265 34];simp[F.V_eq];refine⟨_,_,⟨rfl,rfl⟩,_,q,?_⟩;simp[AB,AW 265,hR]
 ·simp[c1,c2,c3,c4,c5,c6]at hR;simp[c1,c2,c3,c4,c5,c6,AA 265 2,AK,AE,AF,AA 265 9,AA 265 12,AA 265 19,AA 265 26,AA 265 33,AD,AA 265 35,AB,AW 265,hR]
theorem XS {I:Int→Int→Bool} (hp:pa.length≤2^40) (hI:∀a b:Int,0≤a→a <pa.length→0≤b→b <pa.length→PX 311 [.list pa,.int .i64 a,.int .i64 b] [.bool (I a b)])
  (f:F) (hf:f.ok) (t:Th) (ht:t.ok) (hs:t.size≤2^40):PX 164 [.list pa,f.V,t.V] [.bool (decide (IL pa.length f t=0)&&f.hold I t),.int .i64 (IL pa.length f t)]:=by
 refine BJ 164 ?_;obtain⟨E,hE⟩:∃E,IL pa.length f t=E:=⟨_,rfl⟩;have q1:=(Ur f hf).fsp;have q2:=(aR t ht hs).fsp;have q3:=(gP pa.length f hf).fsp;have q4:=(gO pa.length t ht).fsp;have q5:=λh1 h2 h3 h4=>(gM hI f hf (TR h1) h2 t ht h3 h4).fsp;have hform:Hb t=0→t.formed=true:=λh=>by
  unfold Hb at h;split at h
  ·split at h
   ·assumption
   ·cases h
  ·cases h
 rw[hE];unfold IL at hE;generalize BR f=e1 at*;generalize Hb t=e2 at*;generalize f.nodes.all (Gn pa.length)=O at*;generalize t.kinds pa.length=K at*;generalize f.hold I t=B at*;generalize t.formed=T at*;obtain⟨op,n,ins,kids⟩:=f;obtain⟨cs,vs,ps⟩:=t;simp only[F.V_eq,Th.V_eq,AH]at*;simp at q1 q2 q3 q4;simp only[Ai 164,AE,AF,AK,AA 164 0,AA 164 1,AX];simp;refine⟨_,_,q1 _,?_⟩;by_cases b1:e1=0
 ·subst b1;simp at hE;simp[AA 164 2,AD];simp only[AA 164 4];simp;refine⟨_,_,q2 _,?_⟩;by_cases b2:e2=0
  ·subst b2;simp at hE;simp[AA 164 5];simp only[AA 164 7];simp;refine⟨_,_,q3 _,?_⟩;cases O with
   |false=>
    simp at hE;subst hE;simp[AB,AA 164 8,AW 164]
   |true=>
    simp;refine⟨_,_,q4 _,?_⟩;cases K with
    |false=>
     simp at hE;subst hE;simp[AB,AA 164 8,AW 164]
    |true=>
     simp at hE;subst hE;have q:=q5 rfl rfl (hform rfl) rfl;simp at q;simp;simp only[AA 164 9];simp;refine⟨_,_,q _,?_⟩;simp[AB,AW 164]
  ·simp[b2]at hE;subst hE;simp[AA 164 5,b2,AB,AA 164 6,AW 164]
 ·simp[b1]at hE;subst hE;simp[AA 164 2,b1,AB,AA 164 3,AW 164]
end
end Go.Va
