/- Laws, part 10. No condition. -/
import Derived.Test.YtdfcjloangkbhaaGreatDoorL08
set_option linter.all false
set_option maxRecDepth 100000
set_option maxHeartbeats 4000000
noncomputable section
namespace Go.Va
open Go.Proofs
def belR (x:Ivl) (n d:Int):Bool:= !x.li&&(lessR n d x.ln x.ld||(decide (n=x.ln∧d=x.ld)&&x.lo))
def aboR (x:Ivl) (n d:Int):Bool:= !x.hi&&(lessR x.hn x.hd n d||(decide (n=x.hn∧d=x.hd)&&x.ho))
theorem cmpOr_facts {a b c d:Int} (h1:okR a b=true) (h2:okR c d=true):decide (cmpOr a b c d <0)=lessR a b c d∧decide (cmpOr a b c d=0)=decide (a=c∧b=d)∧decide (0 <cmpOr a b c d)=lessR c d a b:=by
 have r:=ratio_eq h1 h2;unfold cmpOr cmpR lessR;rw[h1,h2];simp only[Bool.and_self,if_true];by_cases c1:a*d <c*b
 ·have:¬c*b <a*d:=by omega
  have:¬(a=c∧b=d):=by rintro⟨rfl,rfl⟩;omega
  simp[*]
 ·by_cases c2:c*b <a*d
  ·have:¬(a=c∧b=d):=by rintro⟨rfl,rfl⟩;omega
   simp[*]
  ·have:=r (by omega);simp[*]
theorem in_same {x:Ivl} (gx:goodR x=true) {n d:Int} (h:okR n d=true):(!belR x n d&& !aboR x n d)=hasI x n d:=by
 have q1:=goodR_hi gx;have q2:=goodR_lo gx;obtain⟨ln,ld,hn,hd,lo,ho,li,hi⟩:=x;unfold belR aboR hasI;simp only at*;cases li with
 |false=>
  obtain⟨e1,e2,_⟩:=cmpOr_facts h (smallR_ok (q2 rfl));rw[e1,e2];cases hi with
  |false=>
   obtain⟨_,e4,e5⟩:=cmpOr_facts h (smallR_ok (q1 rfl));rw[e4,e5];simp
  |true=>simp
 |true=>
  cases hi with
  |false=>
   obtain⟨_,e4,e5⟩:=cmpOr_facts h (smallR_ok (q1 rfl));rw[e4,e5];simp
  |true=>simp
theorem p333 (x:Ivl) (gx:goodR x=true) (n d:Int) (h:okR n d=true):PSp Tryz.prog GLx 139 [x.V,ratV n d] [.bool (hasI x n d)]:=by
 refine psp_of_awp (Zkk 139) rfl ?_;rw[←in_same gx h];have q1:=λhh=>(p352 x.hn x.hd n d (smallR_ok (goodR_hi gx hh)) h).fsp;have q2:=λhh=>(p352 n d x.ln x.ld h (smallR_ok (goodR_lo gx hh))).fsp;obtain⟨A,hA⟩:∃A,belR x n d=A:=⟨_,rfl⟩;obtain⟨B,hB⟩:∃B,aboR x n d=B:=⟨_,rfl⟩;rw[hA,hB];unfold belR at hA;unfold aboR at hB;clear gx;obtain⟨ln,ld,hn,hd,lo,ho,li,hi⟩:=x;simp only[ratV]at*;generalize lessR n d ln ld=L1 at*;generalize lessR hn hd n d=L2 at*
 let J:List Row:=[.cells [.v (.int .i64 ln),.v (.int .i64 ld),.v (.int .i64 hn),.v (.int .i64 hd),.v (.bool lo),.v (.bool ho),.v (.bool li),.v (.bool hi)],.cells [.v (.int .i64 n),.v (.int .i64 d)]]
 have fin:∀(Q:AExit→St→Prop),Q .ret ⟨[(4,.v (.bool (!A&& !B)))],J⟩→awp Tryz.prog GLx (.seq (.reg (oG 139 3) [4]) .ret) Q ⟨[(5,.v (.bool A)),(6,.v (.bool B))],J⟩:=by
  intro Q hQ;simp only[awp_seq,awp_reg,Zge 139 3];cases A<;>cases B<;>simpa[awp_ret]using hQ
 have st2:∀(Q:AExit→St→Prop),Q .ret ⟨[(4,.v (.bool (!A&& !B)))],J⟩→awp Tryz.prog GLx (.seq (.reg (oG 139 2) [5,6]) (.seq (.reg (oG 139 3) [4]) .ret)) Q ⟨[(2,.ref 0 0),(3,.ref 1 0),(5,.v (.bool A))],J⟩:=by
  intro Q hQ;have hf:=fin Q hQ;rw[awp_seq,awp_reg];simp only[Zge 139 2,J]at hf ⊢;cases hi with
  |true=>
   simp at hB;subst hB;simpa using hf
  |false=>
   have q1:=q1 rfl;simp at q1;simp;refine⟨_,_,q1 _,?_⟩;cases L2 with
   |true=>
    simp at hB;subst hB;simpa using hf
   |false=>
    simp at hB;by_cases c1:n=hn
    ·by_cases c2:d=hd
     ·subst c1 c2;simp at hB;subst hB;simpa[V.eqL,V.eq1]using hf
     ·simp[c2]at hB;subst hB;simpa[V.eqL,V.eq1,c1,c2]using hf
    ·simp[c1]at hB;subst hB;simpa[V.eqL,V.eq1,c1]using hf
 simp only[Zga 139];rw[awp_seq,awp_reg];simp only[Zge 139 0,entry];simp[Ivl.V];rw[awp_seq,awp_reg];simp only[Zge 139 1];have hfin:=λQ=>st2 Q;simp only[J]at hfin;cases li with
 |true=>
  simp at hA;subst hA;simp;refine hfin _ ?_;simp[Zgr 139]
 |false=>
  have q2:=q2 rfl;simp at q2;simp;refine⟨_,_,q2 _,?_⟩;cases L1 with
  |true=>
   simp at hA;subst hA;simp;refine hfin _ ?_;simp[Zgr 139]
  |false=>
   simp at hA;by_cases c1:n=ln
   ·by_cases c2:d=ld
    ·subst c1 c2;simp at hA;subst hA;simp[V.eqL,V.eq1];refine hfin _ ?_;simp[Zgr 139]
    ·subst c1;simp[c2]at hA;subst hA;simp[V.eqL,V.eq1,c2];refine hfin _ ?_;simp[Zgr 139]
   ·simp[c1]at hA;subst hA;simp[V.eqL,V.eq1,c1];refine hfin _ ?_;simp[Zgr 139]
theorem p313 (l:List Ivl) (hl:∀x∈l,x.ok) (hn:l.length≤2^40) (n d:Int) (h1:i64 n) (h2:i64 d):PSp Tryz.prog GLx 102 [.list (l.map Ivl.V),ratV n d] [.bool (hasL l n d)]:=by
 refine psp_of_awp (Zkk 102) rfl ?_;obtain⟨R,hR⟩:∃R,hasL l n d=R:=⟨_,rfl⟩;rw[hR];unfold hasL at hR;have q1:=(p127 n d h1 h2).fsp;simp only[ratV]at q1;simp at q1;simp only[Zga 102,awp_seq,awp_reg,awp_block,awp_cond,Zge 102 0,Zge 102 1,entry,ratV];simp;refine⟨_,_,q1 _,?_⟩;cases ho:okR n d with
 |false=>
  rw[ho]at hR;simp at hR;simp[awp_ret,Zge 102 2,Zgr 102,hR]
 |true=>
  rw[ho]at hR;simp only[Bool.true_and]at hR;simp[awp_skip,Zge 102 3];refine awp_loop_inv l.length (λk=>⟨[(0,.v (.list (l.map Ivl.V))),(3,.ref 0 0),(5,.v (.int .i64 k))],[.cells [.v (.int .i64 n),.v (.int .i64 d)]]⟩) (λk=>∀x∈l.take k,(goodE x&&hasI x n d)=false) (by simp) (by simp) ?_;intro k hk hI;simp only[Zgl 102 0,awp_seq,awp_reg,awp_block,awp_cond,Zge 102 4];simp;by_cases hlt:k <l.length
  ·obtain⟨x,hx⟩:∃x,l[k]?=some x:=⟨_,List.getElem?_eq_getElem hlt⟩;have hxm:=List.mem_of_getElem? hx;have w1:IntKind.i64.wrap ((k:Int)+1)=k+1:=wrap_i64 (by omega) (by omega);have good:(goodE x&&hasI x n d)=true→R=true:=λh=>by
    rw[←hR,List.any_eq_true];exact⟨x,hxm,h⟩
   have bad:(goodE x&&hasI x n d)=false→∀y∈l.take (k+1),(goodE y&&hasI y n d)=false:=λh y hy=>by
    rw[List.take_add_one,hx]at hy;simp only[Option.toList_some,List.mem_append,List.mem_singleton]at hy;rcases hy with hy|rfl
    ·exact hI y hy
    ·exact h
   have q2:=(p332 x (hl x hxm)).fsp;have q3:=λgx=>p333 x gx n d ho;rw[good_same]at q2 q3;rw[if_pos (by omega),awp_skip];simp only[awp_regD,Zge 102 6];generalize goodE x=g at*;generalize hasI x n d=b at*;obtain⟨ln,ld,hn,hd,lo,ho,li,hi⟩:=x;simp[Ivl.V,ratV]at q2 q3;simp[hx,Ivl.V];refine⟨_,_,q2 _,?_⟩;simp only[Zge 102 7];cases g with
   |false=>
    have bad:=bad rfl;simp[awp_skip,Zge 102 5,w1,hlt];exact λx hx h=>by simpa[h]using bad x hx
   |true=>
    simp[hx,Ivl.V];refine⟨_,_,⟨rfl,rfl⟩,_,(q3 rfl),?_⟩;cases b with
    |false=>
     have bad:=bad rfl;simp[awp_skip,Zge 102 5,w1,hlt];exact λx hx h=>by simpa[h]using bad x hx
    |true=>
     simp[awp_ret,Zge 102 8,Zgr 102,good rfl]
  ·have hk2:k=l.length:=by omega
   subst hk2;rw[if_neg (by omega),awp_exit];have:R=false:=by rw[←hR,List.any_eq_false];simpa using hI
   simp[awp_ret,Zge 102 9,Zgr 102,this]
theorem p312 (t:Th) (ht:t.ok) (n:Int):PSp Tryz.prog GLx 101 [t.V,.int .i64 n] [ratV (valN t n).1 (valN t n).2,.bool (valT t n).isSome]:=by
 obtain⟨cs,vs,ps⟩:=t;obtain⟨_,h2,_,_,_⟩:=ht;refine psp_of_awp (Zkk 101) rfl ?_;unfold valN;obtain⟨o,ho⟩:∃o,valT (.mk cs vs ps) n=o:=⟨_,rfl⟩;rw[ho];unfold valT at ho;simp only[Th.vs]at ho;simp only[Zga 101,awp_seq,awp_reg,awp_block,Zge 101 0,Zge 101 1,entry];simp[Th.V_eq];refine awp_loop_inv vs.length (λk=>⟨[(1,.v (.int .i64 n)),(2,.ref 0 0),(4,.ref 1 0),(6,.v (.int .i64 k))],[.cells (Th.mk cs vs ps).cells,.cells [.v (.int .i64 0),.v (.int .i64 0)]]⟩) (λk=>(vs.drop k).find? (λx=>x.a==n)=o) (by simp[Th.cells,Th.cs,Th.vs,Th.ps]) (by simpa using ho) ?_;intro k hk hI;simp only[Zgl 101 0,awp_seq,awp_reg,awp_block,awp_cond,Zge 101 2,Th.cells,Th.cs,Th.vs,Th.ps];simp;by_cases hlt:k <vs.length
 ·obtain⟨x,hx⟩:∃x,vs[k]?=some x:=⟨_,List.getElem?_eq_getElem hlt⟩;have w1:IntKind.i64.wrap ((k:Int)+1)=k+1:=wrap_i64 (by omega) (by omega);rw[drop_cons_get hx,List.find?_cons]at hI;rw[if_pos (by omega),awp_skip];simp only[Zge 101 4];simp[hx,Val.V];by_cases he:x.a=n
  ·simp[he]at hI;subst hI;simp[he,Zge 101 5,awp_ret,hx,Val.V,putL,Zgr 101,ratV,D.vs?,D.v?]
  ·have he':(x.a==n)=false:=by simpa using he
   rw[he']at hI;simp[he,awp_skip,Zge 101 3,w1,hlt];exact hI
 ·have hk2:k=vs.length:=by omega
  subst hk2;simp at hI;subst hI;rw[if_neg (by omega),awp_exit];simp[awp_ret,Zge 101 6,Zgr 101,putL,ratV,D.vs?,D.v?]
theorem allC_eq (nc:Int) (op n:Int) (ins:List Ivl) (kids:List F):(F.mk op n ins kids).nodes.all (okC nc)=(okC nc (.mk op n ins kids)&&kids.all λk=>k.nodes.all (okC nc)):=by
 rw[F.nodes_eq,List.all_cons,List.all_flatMap]
theorem p263 (nc:Int):∀f:F,f.ok→PSp Tryz.prog GLx 59 [f.V,.int .i64 nc] [.bool (f.nodes.all (okC nc))]:=by
 refine F.ind λop n ins kids ih hok=>?_;refine psp_of_awp (Zkk 59) rfl ?_;obtain⟨R,hR⟩:∃R,(F.mk op n ins kids).nodes.all (okC nc)=R:=⟨_,rfl⟩;rw[hR];rw[allC_eq]at hR;have hsz:=hok.2;rw[F.size_eq]at hsz;have hkl:=F.kids_len kids;obtain⟨K,hK⟩:∃K,okC nc (.mk op n ins kids)=K:=⟨_,rfl⟩;rw[hK]at hR;have hK':K= !(decide (op=1)&&decide (nc≤n)):=hK.symm;have step:∀(Q:AExit→St→Prop),(K=false→Q .ret ⟨[(4,.v (.bool false))],[.cells (F.mk op n ins kids).cells]⟩)→(K=true→Q .normal ⟨[(1,.v (.int .i64 nc)),(2,.ref 0 0),(14,.v (.bool false))],[.cells (F.mk op n ins kids).cells]⟩)→
   awp Tryz.prog GLx (.seq (.reg (oG 59 1) [1,2,14]) (.cond (.t 14 false) (.seq (.reg (oG 59 2) [4]) .ret) .skip)) Q ⟨[(1,.v (.int .i64 nc)),(2,.ref 0 0)],[.cells (F.mk op n ins kids).cells]⟩:=by
  intro Q h1 h2;simp only[awp_seq,awp_reg,awp_cond,Zge 59 1,F.cells,F.op,F.n,F.ins,F.kids]at*;by_cases c1:op=1
  ·by_cases c2:nc≤n
   ·have hf:K=false:=by rw[hK'];simp[c1,c2]
    simpa[c1,c2,awp_seq,awp_reg,awp_ret,Zge 59 2]using h1 hf
   ·have hf:K=true:=by rw[hK'];simp[c2]
    simpa[c1,c2,awp_skip]using h2 hf
  ·have hf:K=true:=by rw[hK'];simp[c1]
   simpa[c1,awp_skip]using h2 hf
 simp only[Zga 59];rw[awp_seq,awp_reg];simp only[Zge 59 0,entry];simp[F.V_eq];rw[awp_seq];simp only[F.cells,F.op,F.n,F.ins,F.kids]at step;refine step _ ?_ ?_
 ·rintro rfl;simp at hR;simp[Zgr 59,hR]
 ·rintro rfl;simp only[Bool.true_and]at hR;simp[awp_seq,awp_block,awp_reg,Zge 59 3];refine awp_loop_inv kids.length (λk=>⟨[(1,.v (.int .i64 nc)),(2,.ref 0 0),(5,.v (.int .i64 k))],[.cells (F.mk op n ins kids).cells]⟩) (λk=>∀x∈kids.take k,x.nodes.all (okC nc)=true) (by simp[F.cells,F.op,F.n,F.ins,F.kids]) (by simp) ?_;intro k hk hI;simp only[Zgl 59 0,awp_seq,awp_reg,awp_block,awp_cond,Zge 59 4,F.cells,F.op,F.n,F.ins,F.kids];simp;by_cases h1:k <kids.length
  ·obtain⟨x,hx⟩:∃x,kids[k]?=some x:=⟨_,List.getElem?_eq_getElem h1⟩;have hxm:=List.mem_of_getElem? hx;have hw:IntKind.i64.wrap ((k:Int)+1)=k+1:=wrap_i64 (by omega) (by omega);have p1:=(ih x hxm (F.ok_kid hok hxm)).fsp;have bad:x.nodes.all (okC nc)=false→R=false:=λh=>by
    rw[←hR,List.all_eq_false];exact⟨x,hxm,by simp[h]⟩
   have good:x.nodes.all (okC nc)=true→∀y∈kids.take (k+1),y.nodes.all (okC nc)=true:=λh y hy=>by
    rw[List.take_add_one,hx]at hy;simp only[Option.toList_some,List.mem_append,List.mem_singleton]at hy;rcases hy with hy|rfl
    ·exact hI y hy
    ·exact h
   rw[if_pos (by omega),awp_skip];simp only[Zge 59 6];generalize x.nodes.all (okC nc)=g at*;obtain⟨xo,xn,xi,xk⟩:=x;simp[F.V_eq]at p1;simp[hx,F.V_eq];refine⟨_,_,p1 _,?_⟩;cases g with
   |false=>simp[awp_ret,Zge 59 7,Zgr 59,bad rfl]
   |true=>
    have good:=good rfl;simp only[List.all_eq_true]at good;simp[awp_skip,Zge 59 5,hw,h1];exact good
  ·have hk2:k=kids.length:=by omega
   subst hk2;rw[if_neg (by omega),awp_exit];have:R=true:=by rw[←hR,List.all_eq_true];simpa using hI
   simp[awp_ret,Zge 59 8,Zgr 59,this]
theorem p264 (nc:Int):∀t:Th,t.ok→PSp Tryz.prog GLx 60 [t.V,.int .i64 nc] [.bool (t.kinds nc)]:=by
 refine Th.ind λcs vs ps ih hok=>?_;obtain⟨ok1,ok2,ok3,ok4,ok5⟩:=hok;refine psp_of_awp (Zkk 60) rfl ?_;obtain⟨R,hR⟩:∃R,(Th.mk cs vs ps).kinds nc=R:=⟨_,rfl⟩;rw[hR];rw[Th.kinds,kindss_all]at hR;simp only[Zga 60,awp_seq,awp_reg,awp_block,Zge 60 0,Zge 60 1,entry];simp[Th.V_eq];refine awp_loop_inv cs.length (λk=>⟨[(1,.v (.int .i64 nc)),(2,.ref 0 0),(5,.v (.int .i64 k))],[.cells (Th.mk cs vs ps).cells]⟩) (λk=>∀x∈cs.take k,x <nc) (by simp[Th.cells,Th.cs,Th.vs,Th.ps]) (by simp) ?_;intro k hk hI;simp only[Zgl 60 0,awp_seq,awp_reg,awp_block,awp_cond,Zge 60 2,Th.cells,Th.cs,Th.vs,Th.ps,nums];simp;by_cases h1:k <cs.length
 ·obtain⟨x,hx⟩:∃x,cs[k]?=some x:=⟨_,List.getElem?_eq_getElem h1⟩;have hxm:=List.mem_of_getElem? hx;have hw:IntKind.i64.wrap ((k:Int)+1)=k+1:=wrap_i64 (by omega) (by omega);rw[if_pos (by omega),awp_skip];simp only[Zge 60 4];simp[hx];by_cases c1:nc≤x
  ·have:R=false:=by
    rw[←hR,Bool.and_eq_false_iff];left;rw[List.all_eq_false];exact⟨x,hxm,by simpa using c1⟩
   simp[c1,awp_ret,Zge 60 5,Zgr 60,this]
  ·have good:∀y∈cs.take (k+1),y <nc:=λy hy=>by
    rw[List.take_add_one,hx]at hy;simp only[Option.toList_some,List.mem_append,List.mem_singleton]at hy;rcases hy with hy|rfl
    ·exact hI y hy
    ·omega
   simp[c1,awp_skip,Zge 60 3,hw,h1];exact good
 ·have hk2:k=cs.length:=by omega
  subst hk2;have hA:(cs.all λc=> !decide (nc≤c))=true:=by
   rw[List.all_eq_true];intro x hx;have:=hI x (by simpa using hx);simp;omega
  rw[hA,Bool.true_and]at hR;rw[if_neg (by omega),awp_exit];simp[Zge 60 6];refine awp_loop_inv ps.length (λk=>⟨[(1,.v (.int .i64 nc)),(2,.ref 0 0),(6,.v (.int .i64 k))],[.cells (Th.mk cs vs ps).cells]⟩) (λk=>∀x∈ps.take k,x.kinds nc=true) (by simp[Th.cells,Th.cs,Th.vs,Th.ps,nums]) (by simp) ?_;intro k hk hI;simp only[Zgl 60 1,awp_seq,awp_reg,awp_block,awp_cond,Zge 60 7,Th.cells,Th.cs,Th.vs,Th.ps,nums];simp;by_cases h1:k <ps.length
  ·obtain⟨x,hx⟩:∃x,ps[k]?=some x:=⟨_,List.getElem?_eq_getElem h1⟩;have hxm:=List.mem_of_getElem? hx;have hw:IntKind.i64.wrap ((k:Int)+1)=k+1:=wrap_i64 (by omega) (by omega);have p1:=(ih x hxm (ok5 x hxm)).fsp;have bad:x.kinds nc=false→R=false:=λh=>by
    rw[←hR,List.all_eq_false];exact⟨x,hxm,by simp[h]⟩
   have good:x.kinds nc=true→∀y∈ps.take (k+1),y.kinds nc=true:=λh y hy=>by
    rw[List.take_add_one,hx]at hy;simp only[Option.toList_some,List.mem_append,List.mem_singleton]at hy;rcases hy with hy|rfl
    ·exact hI y hy
    ·exact h
   rw[if_pos (by omega),awp_skip];simp only[Zge 60 9];generalize x.kinds nc=g at*;obtain⟨xc,xv,xp⟩:=x;simp[Th.V_eq,nums]at p1;simp[hx,Th.V_eq,nums];refine⟨_,_,p1 _,?_⟩;cases g with
   |false=>simp[awp_ret,Zge 60 10,Zgr 60,bad rfl]
   |true=>
    simp[awp_skip,Zge 60 8,hw,h1];exact good rfl
  ·have hk2:k=ps.length:=by omega
   subst hk2;rw[if_neg (by omega),awp_exit];have:R=true:=by rw[←hR,List.all_eq_true];simpa using hI
   simp[awp_ret,Zge 60 11,Zgr 60,this]
theorem incC_pos {l:List Int} {m:Int} (h:incC l m=true) {x:Int} (hx:x∈l):0≤x:=by
 obtain⟨k,hk,hxk⟩:=List.getElem_of_mem hx;rcases (show x <0∨0≤x by omega)with c|c
 ·have hb:badC l m k=true:=by
   unfold badC;rw[decide_eq_true_iff];left;simp[List.getD,List.getElem?_eq_getElem hk,hxk,c]
  unfold incC at h;rw[any_bad hk hb]at h;cases h
 ·exact c
theorem any_take {α:Type} {l:List α} {k:Nat} {x:α} (hx:l[k]?=some x) {p:α→Bool} (hI:∀y∈l.take k,p y=false) (h:p x=false):∀y∈l.take (k+1),p y=false:=by
 intro y hy;rw[List.take_add_one,hx]at hy;simp only[Option.toList_some,List.mem_append,List.mem_singleton]at hy;rcases hy with hy|rfl
 ·exact hI y hy
 ·exact h
set_option maxHeartbeats 2000000 in
theorem p265 {I:Int→Int→Bool} {pa:List V} {nc:Int} (hI:∀a b,0≤a→a <nc→0≤b→b <nc→PSp Tryz.prog GLx 100 [.list pa,.int .i64 a,.int .i64 b] [.bool (I a b)]):
  ∀f:F,f.ok→f.nodes.all formedF=true→f.nodes.all (okC nc)=true→∀t:Th,t.ok→t.formed=true→t.kinds nc=true→PSp Tryz.prog GLx 61 [.list pa,f.V,t.V] [.bool (f.hold I t)]:=by
 refine F.ind λop n ins kids ih hok hfm hoc t ht htf htk=>?_;obtain⟨cs,vs,ps⟩:=t;have hq312:=p312 _ ht n;have hvt:i64 (valN (.mk cs vs ps) n).1∧i64 (valN (.mk cs vs ps) n).2:=by
  unfold valN;cases h:valT (.mk cs vs ps) n with
  |none=>exact⟨by unfold i64;decide,by unfold i64;decide⟩
  |some x=>
   obtain⟨_,_,_,h4,_⟩:=ht;exact⟨(h4 x (List.mem_of_find?_eq_some h)).2.1,(h4 x (List.mem_of_find?_eq_some h)).2.2⟩
 have ht':=ht;obtain⟨ok1,ok2,ok3,ok4,ok5⟩:=ht';have htf':=htf;have htk':=htk;rw[Th.formed,formeds_all]at htf;rw[Th.kinds,kindss_all]at htk;simp only[Bool.and_eq_true,List.all_eq_true]at htf htk;obtain⟨f1,f2,f3,f4⟩:=htf;obtain⟨g1,g2⟩:=htk;have hok1:=F.ok1_self hok;have hsz:=hok.2;rw[F.size_eq]at hsz;have hkl:=F.kids_len kids;rw[show (F.mk op n ins kids).nodes.all formedF=(formedF (.mk op n ins kids)&&kids.all wholeF) from wholeF_eq op n ins kids]at hfm;rw[allC_eq]at hoc;simp only[Bool.and_eq_true,List.all_eq_true]at hfm hoc;obtain⟨m1,m2⟩:=hfm;obtain⟨o1,o2⟩:=hoc;have ihk:∀k∈kids,∀t:Th,t.ok→t.formed=true→t.kinds nc=true→PSp Tryz.prog GLx 61 [.list pa,k.V,t.V] [.bool (k.hold I t)]:=λk hk t a b c=>ih k hk (F.ok_kid hok hk) (m2 k hk) (by rw[List.all_eq_true];exact o2 k hk) t a b c;clear ih;refine psp_of_awp (Zkk 61) rfl ?_;obtain⟨R,hR⟩:∃R,(F.mk op n ins kids).hold I (.mk cs vs ps)=R:=⟨_,rfl⟩;rw[hR];unfold F.hold at hR;rw[holdA_all,holdO_any]at hR;simp only[Th.cs,Th.ps]at hR;simp only[Zga 61,awp_seq,awp_reg,awp_block,Zge 61 0,Zge 61 1,entry];simp[F.V_eq,Th.V_eq,nums];by_cases c1:op=1
 ·subst c1;simp at hR;have hn:0≤n∧n <nc:=by
   have h2:¬nc≤n:=λh=>by unfold okC at o1;simp[F.op,F.n,h]at o1
   unfold formedF at m1;simp[F.op,F.n,F.ins,F.kids]at m1;omega
  simp[Zge 61 2,awp_cond,awp_seq,awp_reg,awp_block,Zge 61 3];refine awp_loop_inv cs.length (λk=>⟨[(0,.v (.list pa)),(4,.ref 0 0),(5,.ref 1 0),(7,.v (.int .i64 k))],[.cells (F.mk 1 n ins kids).cells,.cells (Th.mk cs vs ps).cells]⟩) (λk=>∀x∈cs.take k,I x n=false) (by simp[F.cells,F.op,F.n,F.ins,F.kids,Th.cells,Th.cs,Th.vs,Th.ps,nums]) (by simp) ?_;intro k hk hI2;simp only[Zgl 61 0,awp_seq,awp_reg,awp_block,awp_cond,Zge 61 4,F.cells,F.op,F.n,F.ins,F.kids,Th.cells,Th.cs,Th.vs,Th.ps,nums];simp;by_cases h1:k <cs.length
  ·obtain⟨x,hx⟩:∃x,cs[k]?=some x:=⟨_,List.getElem?_eq_getElem h1⟩;have hxm:=List.mem_of_getElem? hx;have hw:IntKind.i64.wrap ((k:Int)+1)=k+1:=wrap_i64 (by omega) (by omega);have hx1:=g1 x hxm;simp at hx1;have q:=hI x n (incC_pos f2 hxm) hx1 hn.1 hn.2;have good:I x n=true→R=true:=λh=>by rw[←hR,List.any_eq_true];exact⟨x,hxm,h⟩
   have bad:=any_take (p:=λx=>I x n) hx hI2;rw[if_pos (by omega),awp_skip];simp only[awp_regD,Zge 61 6];generalize I x n=g at*;simp[hx];refine⟨_,_,⟨rfl,rfl⟩,_,q,?_⟩;cases g with
   |true=>simp[awp_ret,Zge 61 7,Zgr 61,good rfl]
   |false=>
    simp[awp_skip,Zge 61 5,hw,h1];exact bad rfl
  ·have hk2:k=cs.length:=by omega
   subst hk2;rw[if_neg (by omega),awp_exit];have:R=false:=by rw[←hR,List.any_eq_false];simpa using hI2
   simp[awp_ret,Zge 61 8,Zgr 61,this]
 by_cases c2:op=2
 ·subst c2;simp at hR;simp only[Th.V_eq,nums,ratV]at hq312;have q2:=hq312.fsp;simp at q2;have hins:=p313 ins hok1.2.2.1 hok1.2.2.2 _ _ hvt.1 hvt.2;simp only[ratV]at hins;generalize (valN (.mk cs vs ps) n).1=a at*;generalize (valN (.mk cs vs ps) n).2=b at*;generalize (valT (.mk cs vs ps) n).isSome=g at*;generalize hasL ins a b=hb at*;have q3:=hins.fsp;simp at q3;simp[Zge 61 2,awp_cond,awp_seq,awp_reg,Zge 61 9];simp only[Zge 61 10];simp;refine⟨_,_,q2 _,?_⟩;simp[putL];simp only[Zge 61 11];cases g with
  |false=>
   simp at hR;simp[awp_ret,Zgr 61,hR]
  |true=>
   simp at hR;simp;refine⟨_,_,q3 _,?_⟩;simp[awp_ret,Zgr 61,hR]
 by_cases c3:op=3
 ·subst c3;have hkids:∃x,kids=[x]:=by
   unfold formedF at m1;simp[F.op,F.n,F.ins,F.kids]at m1;exact List.length_eq_one_iff.1 m1.2
  obtain⟨x,rfl⟩:=hkids;simp[F.hold1]at hR;simp[Zge 61 2,awp_cond,awp_seq,awp_reg,awp_block,Zge 61 9,Zge 61 12,Zge 61 13];refine awp_loop_inv ps.length (λk=>⟨[(0,.v (.list pa)),(4,.ref 0 0),(5,.ref 1 0),(10,.v (.int .i64 k))],[.cells (F.mk 3 n ins [x]).cells,.cells (Th.mk cs vs ps).cells]⟩) (λk=>∀y∈ps.take k,x.hold I y=false) (by simp[F.cells,F.op,F.n,F.ins,F.kids,Th.cells,Th.cs,Th.vs,Th.ps,nums]) (by simp) ?_;intro k hk hI2;simp only[Zgl 61 1,awp_seq,awp_reg,awp_block,awp_cond,Zge 61 14,F.cells,F.op,F.n,F.ins,F.kids,Th.cells,Th.cs,Th.vs,Th.ps,nums];simp;by_cases h1:k <ps.length
  ·obtain⟨y,hy⟩:∃y,ps[k]?=some y:=⟨_,List.getElem?_eq_getElem h1⟩;have hym:=List.mem_of_getElem? hy;have hw:IntKind.i64.wrap ((k:Int)+1)=k+1:=wrap_i64 (by omega) (by omega);have q:=ihk x (by simp) y (ok5 y hym) (f4 y hym) (g2 y hym);have good:x.hold I y=true→R=true:=λh=>by rw[←hR,List.any_eq_true];exact⟨y,hym,h⟩
   have bad:=any_take (p:=λy=>x.hold I y) hy hI2;generalize F.hold I x y=g at*;rw[if_pos (by omega),awp_skip];simp only[awp_regD,Zge 61 16];obtain⟨xo,xn,xi,xk⟩:=x;obtain⟨yc,yv,yp⟩:=y;simp only[F.V_eq,Th.V_eq,nums]at q;simp[hy,F.V_eq,Th.V_eq,nums];refine⟨_,_,⟨rfl,rfl⟩,_,q,?_⟩;cases g with
   |true=>simp[awp_ret,Zge 61 17,Zgr 61,good rfl]
   |false=>
    simp[awp_skip,Zge 61 15,hw,h1];exact bad rfl
  ·have hk2:k=ps.length:=by omega
   subst hk2;rw[if_neg (by omega),awp_exit];have:R=false:=by rw[←hR,List.any_eq_false];simpa using hI2
   simp[awp_ret,Zge 61 18,Zgr 61,this]
 have qk:=λk hk=>ihk k hk _ ht htf' htk';clear ihk;by_cases c4:op=4
 ·subst c4;simp at hR;simp[Zge 61 2,awp_cond,awp_seq,awp_reg,awp_block,Zge 61 9,Zge 61 12,Zge 61 19,Zge 61 20];refine awp_loop_inv kids.length (λk=>⟨[(0,.v (.list pa)),(4,.ref 0 0),(5,.ref 1 0),(11,.v (.int .i64 k))],[.cells (F.mk 4 n ins kids).cells,.cells (Th.mk cs vs ps).cells]⟩) (λk=>∀y∈kids.take k,(!y.hold I (.mk cs vs ps))=false) (by simp[F.cells,F.op,F.n,F.ins,F.kids,Th.cells,Th.cs,Th.vs,Th.ps,nums]) (by simp) ?_;intro k hk hI2;simp only[Zgl 61 2,awp_seq,awp_reg,awp_block,awp_cond,Zge 61 21,F.cells,F.op,F.n,F.ins,F.kids,Th.cells,Th.cs,Th.vs,Th.ps,nums];simp;by_cases h1:k <kids.length
  ·obtain⟨y,hy⟩:∃y,kids[k]?=some y:=⟨_,List.getElem?_eq_getElem h1⟩;have hym:=List.mem_of_getElem? hy;have hw:IntKind.i64.wrap ((k:Int)+1)=k+1:=wrap_i64 (by omega) (by omega);have q:=qk y hym;have good:y.hold I (.mk cs vs ps)=false→R=false:=λh=>by rw[←hR,List.all_eq_false];exact⟨y,hym,by simp[h]⟩
   have bad:=any_take (p:=λy=> !y.hold I (.mk cs vs ps)) hy hI2;generalize F.hold I y (.mk cs vs ps)=g at*;rw[if_pos (by omega),awp_skip];simp only[awp_regD,Zge 61 23];obtain⟨yo,yn,yi,yk⟩:=y;simp only[F.V_eq,Th.V_eq,nums]at q;simp[hy,F.V_eq];refine⟨_,_,⟨rfl,rfl⟩,_,q,?_⟩;cases g with
   |false=>simp[awp_ret,Zge 61 24,Zgr 61,good rfl]
   |true=>
    have bad:=bad rfl;simp only[Bool.not_eq_false']at bad;simp[awp_skip,Zge 61 22,hw,h1];exact bad
  ·have hk2:k=kids.length:=by omega
   subst hk2;rw[if_neg (by omega),awp_exit];have:R=true:=by rw[←hR,List.all_eq_true];simpa using hI2
   simp[awp_ret,Zge 61 25,Zgr 61,this]
 by_cases c5:op=5
 ·subst c5;simp at hR;simp[Zge 61 2,awp_cond,awp_seq,awp_reg,awp_block,Zge 61 9,Zge 61 12,Zge 61 19,Zge 61 26,Zge 61 27];refine awp_loop_inv kids.length (λk=>⟨[(0,.v (.list pa)),(4,.ref 0 0),(5,.ref 1 0),(12,.v (.int .i64 k))],[.cells (F.mk 5 n ins kids).cells,.cells (Th.mk cs vs ps).cells]⟩) (λk=>∀y∈kids.take k,y.hold I (.mk cs vs ps)=false) (by simp[F.cells,F.op,F.n,F.ins,F.kids,Th.cells,Th.cs,Th.vs,Th.ps,nums]) (by simp) ?_;intro k hk hI2;simp only[Zgl 61 3,awp_seq,awp_reg,awp_block,awp_cond,Zge 61 28,F.cells,F.op,F.n,F.ins,F.kids,Th.cells,Th.cs,Th.vs,Th.ps,nums];simp;by_cases h1:k <kids.length
  ·obtain⟨y,hy⟩:∃y,kids[k]?=some y:=⟨_,List.getElem?_eq_getElem h1⟩;have hym:=List.mem_of_getElem? hy;have hw:IntKind.i64.wrap ((k:Int)+1)=k+1:=wrap_i64 (by omega) (by omega);have q:=qk y hym;have good:y.hold I (.mk cs vs ps)=true→R=true:=λh=>by rw[←hR,List.any_eq_true];exact⟨y,hym,h⟩
   have bad:=any_take (p:=λy=>y.hold I (.mk cs vs ps)) hy hI2;generalize F.hold I y (.mk cs vs ps)=g at*;rw[if_pos (by omega),awp_skip];simp only[awp_regD,Zge 61 30];obtain⟨yo,yn,yi,yk⟩:=y;simp only[F.V_eq,Th.V_eq,nums]at q;simp[hy,F.V_eq];refine⟨_,_,⟨rfl,rfl⟩,_,q,?_⟩;cases g with
   |true=>simp[awp_ret,Zge 61 31,Zgr 61,good rfl]
   |false=>
    simp[awp_skip,Zge 61 29,hw,h1];exact bad rfl
  ·have hk2:k=kids.length:=by omega
   subst hk2;rw[if_neg (by omega),awp_exit];have:R=false:=by rw[←hR,List.any_eq_false];simpa using hI2
   simp[awp_ret,Zge 61 32,Zgr 61,this]
 by_cases c6:op=6
 ·subst c6;have hkids:∃x,kids=[x]:=by
   unfold formedF at m1;simp[F.op,F.n,F.ins,F.kids]at m1;exact List.length_eq_one_iff.1 m1.2
  obtain⟨x,rfl⟩:=hkids;simp[F.hold1]at hR;have q:=qk x (by simp);generalize F.hold I x (.mk cs vs ps)=g at*;obtain⟨xo,xn,xi,xk⟩:=x;simp only[F.V_eq,Th.V_eq,nums]at q;simp[Zge 61 2,awp_cond,awp_seq,awp_reg,Zge 61 9,Zge 61 12,Zge 61 19,Zge 61 26,Zge 61 33];simp only[awp_regD,Zge 61 34];simp[F.V_eq];refine⟨_,_,⟨rfl,rfl⟩,_,q,?_⟩;simp[awp_ret,Zgr 61,hR]
 ·simp[c1,c2,c3,c4,c5,c6]at hR;simp[c1,c2,c3,c4,c5,c6,Zge 61 2,awp_cond,awp_seq,awp_reg,Zge 61 9,Zge 61 12,Zge 61 19,Zge 61 26,Zge 61 33,awp_skip,Zge 61 35,awp_ret,Zgr 61,hR]
theorem p164 {I:Int→Int→Bool} {pa:List V} (hp:pa.length≤2^40) (hI:∀a b:Int,0≤a→a <pa.length→0≤b→b <pa.length→PSp Tryz.prog GLx 100 [.list pa,.int .i64 a,.int .i64 b] [.bool (I a b)])
  (f:F) (hf:f.ok) (t:Th) (ht:t.ok) (hs:t.size≤2^40):PSp Tryz.prog GLx 32 [.list pa,f.V,t.V] [.bool (decide (hldE pa.length f t=0)&&f.hold I t),.int .i64 (hldE pa.length f t)]:=by
 refine psp_of_awp (Zkk 32) rfl ?_;obtain⟨E,hE⟩:∃E,hldE pa.length f t=E:=⟨_,rfl⟩;have q1:=(p214 f hf).fsp;have q2:=(p103 t ht hs).fsp;have q3:=(p263 pa.length f hf).fsp;have q4:=(p264 pa.length t ht).fsp;have q5:=λh1 h2 h3 h4=>(p265 hI f hf (formE0 h1) h2 t ht h3 h4).fsp;have hform:thE t=0→t.formed=true:=λh=>by
  unfold thE at h;split at h
  ·split at h
   ·assumption
   ·cases h
  ·cases h
 rw[hE];unfold hldE at hE;generalize formE f=e1 at*;generalize thE t=e2 at*;generalize f.nodes.all (okC pa.length)=O at*;generalize t.kinds pa.length=K at*;generalize f.hold I t=B at*;generalize t.formed=T at*;obtain⟨op,n,ins,kids⟩:=f;obtain⟨cs,vs,ps⟩:=t;simp only[F.V_eq,Th.V_eq,nums]at*;simp at q1 q2 q3 q4;simp only[Zga 32,awp_seq,awp_reg,awp_cond,Zge 32 0,Zge 32 1,entry];simp;refine⟨_,_,q1 _,?_⟩;by_cases b1:e1=0
 ·subst b1;simp at hE;simp[Zge 32 2,awp_skip];simp only[Zge 32 4];simp;refine⟨_,_,q2 _,?_⟩;by_cases b2:e2=0
  ·subst b2;simp at hE;simp[Zge 32 5];simp only[Zge 32 7];simp;refine⟨_,_,q3 _,?_⟩;cases O with
   |false=>
    simp at hE;subst hE;simp[awp_ret,Zge 32 8,Zgr 32]
   |true=>
    simp;refine⟨_,_,q4 _,?_⟩;cases K with
    |false=>
     simp at hE;subst hE;simp[awp_ret,Zge 32 8,Zgr 32]
    |true=>
     simp at hE;subst hE;have q:=q5 rfl rfl (hform rfl) rfl;simp at q;simp;simp only[Zge 32 9];simp;refine⟨_,_,q _,?_⟩;simp[awp_ret,Zgr 32]
  ·simp[b2]at hE;subst hE;simp[Zge 32 5,b2,awp_ret,Zge 32 6,Zgr 32]
 ·simp[b1]at hE;subst hE;simp[Zge 32 2,b1,awp_ret,Zge 32 3,Zgr 32]
theorem p261 (l:List Clm) (hl:∀c∈l,c.ok) (hn:l.length≤2^40) (hz:clmsE l=0) (i:Nat) (hi:i <l.length):PSp Tryz.prog GLx 56 [.list (l.map Clm.V),.int .i64 i] [.int .i64 0]:=by
 refine psp_of_awp (Zkk 56) rfl ?_;have q:=(p126 l hl hn).fsp;rw[hz]at q;simp at q;have h1:¬(i:Int) <0:=by omega
 have h2:¬(l.length:Int)≤i:=by omega
 simp only[Zga 56,awp_seq,awp_reg,awp_cond,Zge 56 0,Zge 56 1,entry];simp;refine⟨_,_,q _,?_⟩;simp[Zge 56 2,awp_skip,Zge 56 4,h1,h2];simp[Zge 56 6,awp_ret,Zgr 56]
structure MeanX (T:List Clm) (g:Nat):Prop where
 len:T.length≤32
 ok:∀c∈T,Clm.ok c
 refs:∀c∈T,c.refs.length≤8
 low:∀(k:Nat) (c:Clm),T[k]?=some c→∀r∈c.refs,0≤r∧r <k
 hg:g≤T.length
 mean:∀f∈meanL (T.take g),f.ok∧formE f=0
 bad:∀(k:Nat) (c:Clm),g≤k→T[k]?=some c→c.refs≠[]∧(∀r∈c.refs,r <g)∧(meanC (meanL (T.take g)) c).ok∧formE (meanC (meanL (T.take g)) c)=4
theorem MeanX.of {T:List Clm} (h:MeanOK T):MeanX T T.length:=
 ⟨h.len,h.ok,h.refs,h.low,Nat.le_refl _,by rw[List.take_length];exact h.mean,λk c hk hc=>by have:=(List.getElem?_eq_some_iff.1 hc).1;omega⟩
theorem MeanX.take {T:List Clm} {g:Nat} (h:MeanX T g):MeanOK (T.take g) where
 len:=by have:=h.len;rw[List.length_take];omega
 ok:=λc hc=>h.ok c (List.mem_of_mem_take hc)
 refs:=λc hc=>h.refs c (List.mem_of_mem_take hc)
 low:=λj c hj=>h.low j c (by rw[List.getElem?_take]at hj;split at hj;exact hj;cases hj)
 mean:=h.mean
theorem meanC_pre {T:List Clm} {c:Clm} {g k:Nat} (hg:g≤k) (hk:k≤T.length) (hr:∀r∈c.refs,0≤r∧r <g):meanC (meanL (T.take k)) c=meanC (meanL (T.take g)) c:=by
 unfold meanC;split
 ·rfl
 ·congr 3
  refine congrArg _ (List.map_congr_left λr hrr=>?_);have:=hr r hrr;rw[meanL_pre T k hk,meanL_pre T g (by omega),List.getElem?_take_of_lt (by omega),List.getElem?_take_of_lt (by omega)]
theorem meanAt_C {T:List Clm} {i:Nat} {c:Clm} (hc:T[i]?=some c):meanAt T i=meanC (meanL (T.take i)) c:=by
 obtain⟨hi,_⟩:=List.getElem?_eq_some_iff.1 hc;have h1:=meanL_take T hc;have h2:=meanL_pre T (i+1) (by omega);have h3:=meanL_pre T i (by omega);have hl:=meanL_len T;have e:(meanL T)[i]?=some (meanC (meanL (T.take i)) c):=by
  have:((meanL T).take (i+1))[i]?=(meanL T)[i]?:=List.getElem?_take_of_lt (by omega);have hn:((meanL T).take i).length=i:=by rw[List.length_take];omega
  rw[←this,←h2,h1,h3,List.getElem?_append_right (by omega),hn,Nat.sub_self];rfl
 unfold meanAt;rw[Int.toNat_natCast,e,Option.getD_some]
theorem MeanX.at {T:List Clm} {g:Nat} (h:MeanX T g) {i:Nat} {c:Clm} (hi:g≤i) (hc:T[i]?=some c):meanAt T i=meanC (meanL (T.take g)) c:=
 (meanAt_C hc).trans (meanC_pre hi (by have:=(List.getElem?_eq_some_iff.1 hc).1;omega) λr hr=>⟨(h.low i c hc r hr).1,(h.bad i c hi hc).2.1 r hr⟩)
theorem MeanX.good {T:List Clm} {g:Nat} (h:MeanX T g) {i:Nat} (hi:i <g):(meanAt T i).ok∧formE (meanAt T i)=0:=by
 have hg:=h.hg;have hm:=h.mean (meanAt T i) (by
  unfold meanAt;have hl:=meanL_len T;rw[Int.toNat_natCast,List.getElem?_eq_getElem (by omega),Option.getD_some,meanL_pre T g hg];exact List.mem_iff_getElem?.2 ⟨i,by rw[List.getElem?_take_of_lt hi];exact List.getElem?_eq_getElem _⟩)
 exact hm
theorem MeanX.large {T:List Clm} {g:Nat} (h:MeanX T g) {i:Nat} (hi:g≤i) (hil:i <T.length):(meanAt T i).ok∧formE (meanAt T i)=4:=by
 obtain⟨c,hc⟩:∃c,T[i]?=some c:=⟨_,List.getElem?_eq_getElem hil⟩;rw[h.at hi hc];exact(h.bad i c hi hc).2.2
theorem MeanX.okAt {T:List Clm} {g:Nat} (h:MeanX T g) {i:Int} (hi:0≤i∧i <T.length):(meanAt T i).ok:=by
 obtain⟨m,rfl⟩:∃m:Nat,i=m:=⟨i.toNat,by omega⟩;by_cases hm:m <g
 ·exact(h.good hm).1
 ·exact(h.large (by omega) (by omega)).1
def noF:F:= .mk 0 0 [] []
def mnF (T:List Clm) (i:Int):F:=if formE (meanAt T i)=0 then meanAt T i else noF
set_option maxRecDepth 100000 in
theorem l317zb (h:List Row) (M:Row) (f:F) (hf:f.ok∧formE f=4) (k:Nat) (v19 v20:V) (J:List Row) (a8:Nat) (Q:AExit→St→Prop)
  (hQ:∀e J,find e 5= .mref h.length→find e 19= .v v19→find e 20= .v v20→find e 21= .v (.int .i64 k)→Q .normal ⟨e,h++M::J⟩)
  (ds:List D) (hcp:ds.map D.copy=[.v (.int .i64 f.op),.v (.int .i64 f.n),.v (.list (f.ins.map Ivl.V)),.v (.list (f.kids.map F.V))]) (hJ:(h++M::J)[a8]?=some (.cells ds)):
  ∀e,find e 5= .mref h.length→find e 6= .v (.int .i64 k)→find e 8= .ref a8 0→find e 9= .v (.bool true)→find e 19= .v v19→find e 20= .v v20→find e 21= .v (.int .i64 k)→
   awp Tryz.prog GLx c317T Q ⟨e,h++M::J⟩:=by
 intro e f5 f6 f8 f9 f19 f20 f21;have q:=(p66 f hf.1).fsp;rw[hf.2]at q;obtain⟨op,n,ins,kids⟩:=f;simp only[F.V_eq,F.op,F.n,F.ins,F.kids]at q hcp;have hdl:ds.length=4:=by have:=congrArg List.length hcp;simpa using this
 simp only[c317T,awp_seq,awp_reg,awp_cond,Zge 52 15];simp[f8,f9,hJ,hcp,hdl]at q ⊢;refine⟨_,_,q _,?_⟩;simp[f5,f6,f19,f20,f21,awp_skip];exact hQ _ _ rfl rfl rfl rfl
set_option maxRecDepth 100000 in
theorem l317x (T:List Clm) (g:Nat) (hT:MeanX T g) (m:Nat) (hm:m≤T.length) (h:List Row) (Q:AExit→St→Prop)
  (hQ:∀e J,find e 5= .mref h.length→Q (.exit 0) ⟨e,h++mapN ((meanL (T.take (min m g))).map F.V)::J⟩):
  awp Tryz.prog GLx (.loop (lG 52 0)) Q ⟨[(5,.mref h.length),(19,.v (.list ((T.take m).map Clm.V))),(20,.v (.int .i64 m)),(21,.v (.int .i64 (0:Nat)))],h++[mapN []]⟩:=by
 refine awp_loop_I m (λk s=>∃J,s=⟨[(5,.mref h.length),(19,.v (.list ((T.take m).map Clm.V))),(20,.v (.int .i64 m)),(21,.v (.int .i64 k))],h++mapN ((meanL (T.take (min k g))).map F.V)::J⟩) ⟨[],by simp[meanL]⟩ ?_;rintro k s hk ⟨J,rfl⟩;rw[c317l0_eq];simp only[awp_seq,awp_reg,awp_block,awp_cond,Zge 52 3];simp only[List.map_take];simp;by_cases hkl:k <m
 ·obtain⟨c,hc⟩:∃c,T[k]?=some c:=⟨_,List.getElem?_eq_getElem (by omega)⟩;have hTl:=hT.len;have hg:=hT.hg;have hcm:=List.mem_of_getElem? hc;have w1:IntKind.i64.wrap ((k:Int)+1)=k+1:=wrap_i64 (by omega) (by omega);have hcx:((T.map Clm.V).take m)[k]?=some c.V:=by rw[List.getElem?_take_of_lt hkl,List.getElem?_map,hc];rfl
  have key:∃acc f,meanL (T.take (min k g))=acc∧f=meanC acc c∧(∀r∈c.refs,0≤r∧r <acc.length)∧
    (∀(J:List Row) (a8:Nat) (Q:AExit→St→Prop),(∀e J,find e 5= .mref h.length→find e 19= .v (.list ((T.map Clm.V).take m))→find e 20= .v (.int .i64 m)→find e 21= .v (.int .i64 k)→Q .normal ⟨e,h++mapN ((meanL (T.take (min (k+1) g))).map F.V)::J⟩)→
     ∀(ds:List D),ds.map D.copy=[.v (.int .i64 f.op),.v (.int .i64 f.n),.v (.list (f.ins.map Ivl.V)),.v (.list (f.kids.map F.V))]→(h++mapN (acc.map F.V)::J)[a8]?=some (.cells ds)→
     ∀e,find e 5= .mref h.length→find e 6= .v (.int .i64 k)→find e 8= .ref a8 0→find e 9= .v (.bool true)→find e 19= .v (.list ((T.map Clm.V).take m))→find e 20= .v (.int .i64 m)→find e 21= .v (.int .i64 k)→
      awp Tryz.prog GLx c317T Q ⟨e,h++mapN (acc.map F.V)::J⟩):=by
   have hal:(meanL (T.take (min k g))).length=min k g:=by rw[meanL_len,List.length_take];omega
   by_cases hkg:k <g
   ·have e1:min k g=k:=by omega
    have e2:min (k+1) g=k+1:=by omega
    rw[e1]at hal;have hf:=hT.good hkg;rw[meanAt_C hc]at hf;refine⟨_,_,rfl,rfl,λr hr=>by rw[e1,hal];exact hT.low k c hc r hr,?_⟩;intro J a8 Q hQ ds hcp hJ;rw[e1]at hcp hJ ⊢;rw[e2,meanL_take T hc]at hQ;exact l317z h _ _ hf k hal _ _ J a8 Q hQ ds hcp hJ
   ·have e1:min k g=g:=by omega
    have e2:min (k+1) g=g:=by omega
    rw[e1]at hal;obtain⟨b1,b2,b3⟩:=hT.bad k c (by omega) hc;refine⟨_,_,rfl,rfl,λr hr=>by rw[e1,hal];exact⟨(hT.low k c hc r hr).1,b2 r hr⟩,?_⟩;intro J a8 Q hQ ds hcp hJ;rw[e1]at hcp hJ ⊢;rw[e2]at hQ;exact l317zb h _ _ b3 k _ _ J a8 Q hQ ds hcp hJ
  obtain⟨acc,f,hacc,hfe,hlow,hz⟩:=key;have hrf:=hT.refs c hcm;rw[hacc];generalize mapN ((meanL (T.take (min (k+1) g))).map F.V)=MM at*;generalize (T.map Clm.V).take m=TT at*;obtain⟨refs,body⟩:=c;simp only at hlow hrf;rw[if_pos (by omega),awp_skip];simp only[Zge 52 4,Zge 52 5];simp[hcx,Clm.V,putL];unfold c317B;simp only[awp_seq,awp_reg,awp_cond,Zge 52 6];simp[nums];by_cases hr0:refs=[]
  ·subst hr0;have hme:meanC acc ⟨[],body⟩=body:=by simp[meanC]
   rw[hme]at hfe;subst hfe;simp[awp_skip];have hget:∀(m a b:Row),(h++m::(J++[a,b]))[h.length+J.length+2]?=some b:=by
    intro m a b;have:=List.getElem?_concat_length (l:=h++m::(J++[a])) (a:=b);simp only[List.append_assoc,List.cons_append,List.length_append,List.length_cons,List.length_nil,List.nil_append,←Nat.add_assoc]at this;exact this
   refine hz _ (h.length+J.length+2) _ ?_ [.v (.int .i64 f.op),.v (.int .i64 f.n),.v (.list (f.ins.map Ivl.V)),.v (.list (f.kids.map F.V))] rfl (hget _ _ _) _ rfl rfl rfl rfl rfl rfl rfl;intro e J' g5 g19 g20 g21;simp[Zge 52 17,g5,g19,g20,g21,w1,hkl]
  ·have h0:0 <refs.length:=by cases refs with|nil=>exact absurd rfl hr0|cons=>simp
   rw[if_pos h0];simp only[Zge 52 7];simp;simp only[awp_block,Zge 52 8];simp;have hi:=λC Fr v6 v19 v20 v21 a7 a8 Q=>l317i (h++mapN (acc.map F.V)::J) h.length acc (by simp) C Fr refs (λr hr=>by have:=hlow r hr;omega) hrf body v6 v19 v20 v21 a7 a8 Q;simp[nums]at hi;simp[putL];rw[show h.length+(J.length+2+1)=h.length+(J.length+1)+2 by omega];refine hi _ _ _ _ _ _ _ _ _ ?_;intro e J' g5 g6 g7 g8 g9 g10 g19 g20 g21;rw[show h.length+(J.length+1)+2=h.length+(J.length+2+1) by omega]at g10;simp only[Zge 52 14];simp[g7,g10];simp[putL,g5,g6,g8,g9,g19,g20,g21];have hget:∀(m a b:Row) (Z:List Row),(h++m::(J++a::b::Z))[h.length+(J.length+1+1)]?=some b:=by
    intro m a b Z;simp
   refine hz _ (h.length+(J.length+1+1)) _ ?_ _ ?_ (hget _ _ _ _) _ rfl rfl rfl rfl rfl rfl rfl
   ·intro e J' g5 g19 g20 g21;simp[Zge 52 17,g5,g19,g20,g21,w1,hkl]
   ·obtain⟨o,n,i,kk⟩:=body;simp[hfe,meanC,hr0,F.op,F.n,F.ins,F.kids,F.V_eq]
 ·have hk2:k=m:=by omega
  subst hk2;rw[if_neg (by omega),awp_exit];exact hQ _ J rfl
set_option maxRecDepth 100000 in
theorem p317x (l:List Clm) (g:Nat) (hT:MeanX l g) (i:Nat) (hi:i <l.length) (h:List Row) (hl:Low h):
  FSp Tryz.prog GLx 52 [.v (.list (l.map Clm.V)),.v (.int .i64 i)] h [.mref h.length] (h++[mapN ((meanL (l.take (min (i+1) g))).map F.V)]):=by
 refine fsp_low (Zkk 52) rfl (by simp) (hl.app rfl) (by simp[D.lt]) ?_;have hloop:=l317x l g hT (i+1) hi h;have hlen:=hT.len;have w1:IntKind.i64.wrap ((i:Int)+1)=i+1:=wrap_i64 (by omega) (by omega);have e1:((i:Int)+1).toNat=i+1:=by omega
 have hho:=ho_clm l;have hmm:mapN []= .map [] [] 0:=rfl;rw[hmm]at hloop;simp only[Zga 52,awp_seq,awp_reg,awp_block,Zge 52 0,Zge 52 1,Zge 52 2,entryD];have hml:min (i+1) l.length=i+1:=by omega
 simp[w1,e1,hho,hml,show 0≤(i:Int)+1 by omega,show i+1≤l.length from hi];simp at hloop;refine hloop _ ?_;intro e J g5;simp[Zge 52 18,g5,awp_ret,Zgr 52]
set_option maxRecDepth 100000 in
theorem p274x (l:List Clm) (g:Nat) (i:Nat) (hi:i <l.length) (hT:MeanX l g) (hz:clmsE l=0):PSp Tryz.prog GLx 29 [.list (l.map Clm.V),.int .i64 i] [(mnF l i).V,.int .i64 (formE (meanAt l i))]:=by
 refine psp_of_fsp (args:=[_,_]) (rets:=[_,_]) ?_;refine fsp_low (Zkk 29) rfl (Nat.le_refl _) (by intro row h;cases h) (by simp[D.lt]) ?_;have hlen:=hT.len;have hg:=hT.hg;have q1:=(p63 l hT.ok (by omega) hz i hi).fsp;have q2:=p317x l g hT i hi [.cells [.v (.int .i64 0),.v (.int .i64 0),.own 167 8 [],.own 71 4 []]] (by intro row h;simp at h;subst h;rfl);have hn:((meanL (l.take (min (i+1) g))).map F.V).length=min (i+1) g:=by rw[List.length_map,meanL_len,List.length_take];omega
 unfold mnF;by_cases hig:i <g
 ·have hgd:=hT.good hig;rw[hgd.2,if_pos rfl];obtain⟨f,hf⟩:∃f,(meanL l)[i]?=some f:=⟨_,List.getElem?_eq_getElem (by rw[meanL_len];exact hi)⟩;have hm1:min (i+1) g=i+1:=by omega
  rw[hm1]at q2 hn;have hf2:(meanL (l.take (i+1)))[i]?=some f:=by
   rw[meanL_pre l (i+1) hi,List.getElem?_take,if_pos (by omega)];exact hf
  have hfa:meanAt l i=f:=by unfold meanAt;simp[hf]
  have hm:mfind false [0] (.int .i64 i) (entN 0 ((meanL (l.take (i+1))).map F.V))=some (some i):=by
   rw[mfindN false,if_pos (by rw[hn];omega)];simp
  have hgt:(entN 0 ((meanL (l.take (i+1))).map F.V))[i]?=some (.int .i64 i,f.V):=by
   have:=entN_get ((meanL (l.take (i+1))).map F.V) 0 i f.V (by simp[hf2]);simpa using this
  rw[hfa];unfold mapN at q2;generalize (meanL (l.take (i+1))).map F.V=es at*;obtain⟨go,gn,gi,gk⟩:=f;simp only[F.V_eq]at*;simp only[Zga 29,awp_seq,awp_reg,awp_cond,Zge 29 0,entryD];simp;simp only[Zge 29 1];simp;refine⟨_,_,q1 _,?_⟩;simp[Zge 29 2,Zge 29 4];simp at q2;refine⟨_,_,q2,?_⟩;simp[keyOK,V.eqL,V.eq1,hm,hgt,lookD,putL,awp_skip,Zge 29 5,Zge 29 7,awp_ret,Zgr 29,D.one?]
 ·have hbd:=hT.large (by omega) hi;rw[hbd.2,if_neg (by decide)];have hm1:min (i+1) g=g:=by omega
  rw[hm1]at q2 hn;have hm:mfind false [0] (.int .i64 i) (entN 0 ((meanL (l.take g)).map F.V))=some none:=by
   rw[mfindN false,if_neg (by rw[hn];omega)]
  unfold mapN at q2;generalize (meanL (l.take g)).map F.V=es at*;simp only[noF,F.V_eq]at*;simp only[Zga 29,awp_seq,awp_reg,awp_cond,Zge 29 0,entryD];simp;simp only[Zge 29 1];simp;refine⟨_,_,q1 _,?_⟩;simp[Zge 29 2,Zge 29 4];simp at q2;refine⟨_,_,q2,?_⟩;simp[keyOK,V.eqL,V.eq1,hm,lookD,putL,awp_skip,Zge 29 5,Zge 29 6,awp_ret,Zgr 29,D.one?,D.vs?,D.v?]
set_option maxRecDepth 100000 in
theorem l262x (T:List Clm) (i:Nat) (c:Clm) (hc:T[i]?=some c) (hlr:c.refs.length≤8) (R4:Row) (ih:∀r∈c.refs,PSp Tryz.prog GLx 57 [.list (T.map Clm.V),.int .i64 r] [(meanAt T r).V,.bool true]) (Q:AExit→St→Prop)
  (hQ:∀e J,find e 0= .v (.list (T.map Clm.V))→find e 1= .v (.int .i64 i)→find e 4= .ref 0 0→find e 6= .ref 1 0→Q (.exit 0) ⟨e,R4::rBy 5 0 [] (c.refs.map (meanAt T))::J⟩):
  awp Tryz.prog GLx (.loop (lG 57 0)) Q ⟨[(0,.v (.list (T.map Clm.V))),(1,.v (.int .i64 i)),(4,.ref 0 0),(6,.ref 1 0),(7,.v (.int .i64 0))],[R4,rBy 5 0 [] []]⟩:=by
 refine awp_loop_I c.refs.length (λk s=>∃J,s=⟨[(0,.v (.list (T.map Clm.V))),(1,.v (.int .i64 i)),(4,.ref 0 0),(6,.ref 1 0),(7,.v (.int .i64 k))],R4::rBy 5 0 [] ((c.refs.map (meanAt T)).take k)::J⟩) ⟨[],by simp⟩ ?_;rintro k s hk ⟨J,rfl⟩;simp only[Zgl 57 0,awp_seq,awp_reg,awp_block,awp_cond,Zge 57 5,rBy];simp[hc,Clm.V,nums];by_cases h1:k <c.refs.length
 ·obtain⟨r,hr⟩:∃r,c.refs[k]?=some r:=⟨_,List.getElem?_eq_getElem h1⟩;have hw:IntKind.i64.wrap ((k:Int)+1)=k+1:=wrap_i64 (by omega) (by omega);have q:=(ih r (List.mem_of_getElem? hr)).fsp;have hroom:roomy (k+1) 64=true:=by simp[roomy];omega
  have hm:min k c.refs.length=k:=by omega
  have e:(c.refs.map (F.V ∘ meanAt T)).take (k+1)=(c.refs.map (F.V ∘ meanAt T)).take k++[(meanAt T r).V]:=by
   rw[List.take_add_one,List.getElem?_map,hr];rfl
  rw[if_pos (by omega),awp_skip];simp only[Zge 57 7];generalize meanAt T r=M at*;obtain⟨mo,mn,mi,mk⟩:=M;simp[F.V_eq]at q;simp[hc,Clm.V,nums,hr];refine⟨_,_,q _,?_⟩;simp[putL,Zge 57 8,awp_skip];simp only[Zge 57 10];simp[hm,hroom];simp[Zge 57 6,hw,h1,e,F.V_eq]
 ·have hk2:k=c.refs.length:=by omega
  subst hk2;rw[if_neg (by omega),awp_exit];have:=hQ;simp[rBy]at this;have ee:(c.refs.map (F.V ∘ meanAt T)).take c.refs.length=c.refs.map (F.V ∘ meanAt T):=List.take_of_length_le (by simp);rw[ee];exact this _ _ rfl rfl rfl rfl
theorem meanAt_ofX {T:List Clm} {i:Nat} {c:Clm} (hc:T[i]?=some c) (hlow:∀r∈c.refs,0≤r∧r <i):meanAt T i=if c.refs=[] then c.body else .mk 4 0 [] [c.body,.mk 5 0 [] (c.refs.map (meanAt T))]:=by
 have hi:=(List.getElem?_eq_some_iff.1 hc).1;have hl:=meanL_len T;rw[meanAt_C hc];unfold meanC;split
 ·rfl
 ·congr 3
  refine congrArg _ (List.map_congr_left λr hr=>?_);have:=hlow r hr;rw[meanL_pre T i (by omega),List.getElem?_take_of_lt (by omega),List.getElem?_eq_getElem (by omega)];unfold meanAt;rw[List.getElem?_eq_getElem (by omega)];rfl
set_option maxRecDepth 100000 in
theorem p262x (T:List Clm) (g:Nat) (hT:MeanX T g):∀i:Nat,i <T.length→PSp Tryz.prog GLx 57 [.list (T.map Clm.V),.int .i64 i] [(meanAt T i).V,.bool (decide (formE (meanAt T i)=0))]:=by
 intro i;induction i using Nat.strongRecOn with
 |_ i ih=>
  intro hi;have hg:=hT.hg;obtain⟨c,hc⟩:∃c,T[i]?=some c:=⟨_,List.getElem?_eq_getElem hi⟩;have hm:=meanAt_ofX hc (hT.low i c hc);have hok:=hT.okAt (i:=i) ⟨by omega,by omega⟩;have ihr:∀r∈c.refs,PSp Tryz.prog GLx 57 [.list (T.map Clm.V),.int .i64 r] [(meanAt T r).V,.bool true]:=by
   intro r hr;have h1:=hT.low i c hc r hr;obtain⟨m,rfl⟩:∃m:Nat,r=m:=⟨r.toNat,by omega⟩;have hmg:m <g:=by
    by_cases hig:g≤i
    ·have:=(hT.bad i c hig hc).2.1 _ hr;omega
    ·omega
   have:=ih m (by omega) (by omega);rw[(hT.good hmg).2]at this;exact this
  have hloop:=λR4 Q=>l262x T i c hc (hT.refs c (List.mem_of_getElem? hc)) R4 ihr Q;have q214:=p214 _ hok;refine psp_of_awp (Zkk 57) rfl ?_;simp only[Zga 57,awp_seq,awp_reg,awp_block,awp_cond,Zge 57 0,Zge 57 1,entry];by_cases h0:c.refs=[]
  ·have hig:i <g:=by
    by_cases hig:g≤i
    ·exact absurd h0 (hT.bad i c hig hc).1
    ·omega
   rw[(hT.good hig).2];rw[if_pos h0]at hm;rw[hm];obtain⟨refs,op,n,ins,kids⟩:=c;simp only at h0;subst h0;simp[hc,Clm.V,nums];simp[Zge 57 2,awp_ret,Zgr 57,hc,Clm.V,F.V_eq,putL,F.op,F.n,F.ins,F.kids,D.vs?,D.v?]
  ·rw[if_neg h0]at hm;generalize formE (meanAt T i)=EE at*;rw[hm]at q214 ⊢;generalize c.refs.map (meanAt T)=M at*;simp[hc,Clm.V,nums,h0,awp_skip,Zge 57 3,putL,Zge 57 4];simp only[rBy]at hloop;simp at hloop;refine hloop _ _ ?_;intro e J f0 f1 f4 f6;refine⟨rfl,?_⟩;obtain⟨refs,op,n,ins,kids⟩:=c;simp only[F.V_eq,List.map_cons,List.map_nil]at q214;simp only[awp_regD,Zge 57 11];simp[f0,f1,f4,f6,hc,Clm.V,nums,putL,F.op,F.n,F.ins,F.kids];simp only[Zge 57 12];simp;refine⟨_,_,⟨rfl,rfl⟩,_,q214,?_⟩;simp[putL,awp_ret,Zgr 57,F.V_eq,D.vs?,D.v?];rfl
theorem p163x (T:List Clm) (g:Nat) (hT:MeanX T g) (hz:clmsE T=0) (i:Nat) (hi:i <T.length):PSp Tryz.prog GLx 31 [.list (T.map Clm.V),.int .i64 i] [(mnF T i).V,.int .i64 (formE (meanAt T i))]:=by
 refine psp_of_awp (Zkk 31) rfl ?_;have q1:=(p261 T hT.ok (by have:=hT.len;omega) hz i hi).fsp;have q2:=(p262x T g hT i hi).fsp;have hE:formE (meanAt T i)=0∨formE (meanAt T i)=4:=by
  by_cases hig:i <g
  ·exact .inl (hT.good hig).2
  ·exact .inr (hT.large (by omega) hi).2
 unfold mnF;generalize formE (meanAt T i)=EE at*;generalize meanAt T i=M at*;obtain⟨op,n,ins,kids⟩:=M;rcases hE with rfl|rfl
 ·simp[F.V_eq]at q1 q2;simp only[Zga 31,awp_seq,awp_reg,awp_cond,Zge 31 0,Zge 31 1,entry];simp[F.V_eq];refine⟨_,_,q1 _,?_⟩;simp[Zge 31 2,awp_skip];simp only[Zge 31 4];simp;refine⟨_,_,q2 _,?_⟩;simp[putL,Zge 31 5];simp[Zge 31 7,putL,awp_ret,Zgr 31,D.vs?,D.v?]
 ·simp[F.V_eq]at q1 q2;simp only[Zga 31,awp_seq,awp_reg,awp_cond,Zge 31 0,Zge 31 1,entry,noF];simp[F.V_eq];refine⟨_,_,q1 _,?_⟩;simp[Zge 31 2,awp_skip];simp only[Zge 31 4];simp;refine⟨_,_,q2 _,?_⟩;simp[putL,Zge 31 5];simp[Zge 31 6,putL,awp_ret,Zgr 31,D.vs?,D.v?]
theorem p260 (l:List Int) (hl:l.length≤2^40) (n:Int):PSp Tryz.prog GLx 26 [nums .i64 l,.int .i64 n] [.bool (l.any λx=>n==x)]:=by
 refine psp_of_awp (Zkk 26) rfl ?_;obtain⟨R,hR⟩:∃R,(l.any λx=>n==x)=R:=⟨_,rfl⟩;rw[hR];simp only[Zga 26,awp_seq,awp_reg,awp_block,Zge 26 0,Zge 26 1,entry,nums];simp;refine awp_loop_inv l.length (λk=>⟨[(0,.v (.list (l.map (.int .i64)))),(1,.v (.int .i64 n)),(5,.v (.int .i64 k))],[]⟩) (λk=>∀x∈l.take k,(n==x)=false) (by simp) (by simp) ?_;intro k hk hI;simp only[Zgl 26 0,awp_seq,awp_reg,awp_block,awp_cond,Zge 26 2];simp;by_cases h1:k <l.length
 ·obtain⟨x,hx⟩:∃x,l[k]?=some x:=⟨_,List.getElem?_eq_getElem h1⟩;have hxm:=List.mem_of_getElem? hx;have hw:IntKind.i64.wrap ((k:Int)+1)=k+1:=wrap_i64 (by omega) (by omega);rw[if_pos (by omega),awp_skip];simp only[Zge 26 4];simp[hx];by_cases c1:x=n
  ·have:R=true:=by rw[←hR,List.any_eq_true];exact⟨x,hxm,by simp[c1]⟩
   simp[c1,awp_ret,Zge 26 5,Zgr 26,this]
  ·have bad:=any_take (p:=λx=>n==x) hx hI (by simpa using λh=>c1 h.symm);simp[c1,awp_skip,Zge 26 3,hw,h1];simpa using bad
 ·have hk2:k=l.length:=by omega
  subst hk2;rw[if_neg (by omega),awp_exit];have:R=false:=by rw[←hR,List.any_eq_false];simpa using hI
  simp[awp_ret,Zge 26 6,Zgr 26,this]
theorem p162 (r:Rgt) (h1:r.claims.length≤2^30) (h2:r.bad.length≤2^40):PSp Tryz.prog GLx 10 [r.V] [nums .i64 (liveR r)]:=by
 refine psp_of_awp (Zkk 10) rfl ?_;unfold liveR;obtain⟨file,state,force,claims,dates,bad,owners,lics⟩:=r;simp only at h1 h2 ⊢;simp only[Zga 10,awp_seq,awp_reg,awp_block,Zge 10 0,Zge 10 1,Zge 10 2,entry];simp[Rgt.V,Rgt.cs,nums];by_cases hf:force=0
 ·subst hf;simp;refine awp_loop_nat0 claims.length (λk=>⟨[(1,.ref 0 0),(3,.own 3 1 ((((List.range k).map λ(i:Nat)=>(i:Int)).filter λi=> !(bad.any λx=>i==x)).map (.int .i64))),(4,.v (.int .i64 k))],
   [.cells ((Rgt.cs ⟨file,state,0,claims,dates,bad,owners,lics⟩).map .v)]⟩) (by simp[Rgt.cs,nums]) ?_
  intro k hk;simp only[Zgl 10 0,awp_seq,awp_reg,awp_block,awp_cond,Zge 10 3];by_cases hlt:k <claims.length
  ·have hw:IntKind.i64.wrap ((k:Int)+1)=k+1:=wrap_i64 (by omega) (by omega);have q:=(p260 bad h2 k).fsp;have hltI:(k:Int) <claims.length:=by omega
   have hlen:(((List.range k).map λ(i:Nat)=>(i:Int)).filter λi=> !(bad.any λx=>i==x)).length≤k:=by
    have:=List.length_filter_le (λi=> !(bad.any λx=>i==x)) ((List.range k).map λ(i:Nat)=>(i:Int));simpa using this
   have hs:(((List.range (k+1)).map λ(i:Nat)=>(i:Int)).filter λi=> !(bad.any λx=>i==x))=(((List.range k).map λ(i:Nat)=>(i:Int)).filter λi=> !(bad.any λx=>i==x))++(if (bad.any λx=>(k:Int)==x) then [] else [(k:Int)]):=by
    rw[List.range_succ,List.map_append,List.filter_append]
    congr 1
    simp only[List.map_cons,List.map_nil,List.filter_cons,List.filter_nil];cases (bad.any λx=>(k:Int)==x)<;>rfl
   rw[hs];generalize (((List.range k).map λ(i:Nat)=>(i:Int)).filter λi=> !(bad.any λx=>i==x))=L at*;generalize (bad.any λx=>(k:Int)==x)=B at*;have hroom:roomy (L.length+1) 8=true:=by simp[roomy];omega
   simp[nums]at q;simp[Rgt.cs,nums,hltI,awp_skip];simp only[Zge 10 5];simp;refine⟨_,_,q _,?_⟩;simp only[Zge 10 6];cases B with
   |true=>simp[Zge 10 4,hw,hlt]
   |false=>simp[Zge 10 7,hroom,Zge 10 4,hw,hlt]
  ·have hk2:k=claims.length:=by omega
   subst hk2;simp[Rgt.cs,nums,awp_exit];simp[awp_ret,Zge 10 8,Zgr 10]
 ·simp[hf];refine awp_loop_end ?_;simp only[Zgl 10 0,awp_seq,awp_reg,awp_block,awp_cond,Zge 10 3];have hf':(force==0)=false:=by simpa using hf
  by_cases h0:0 <claims.length
  ·simp[h0,hf',awp_exit,awp_ret,Zge 10 8,Zgr 10]
  ·simp[h0,awp_exit,awp_ret,Zge 10 8,Zgr 10]
theorem againstR_len (I:Int→Int→Bool) (t:Th) (r:Rgt):(againstR I t r).length≤r.claims.length:=by
 unfold againstR;rw[List.length_map];exact Nat.le_trans (List.length_filter_le _ _) (liveR_len r)
theorem againstL_len (I:Int→Int→Bool) (t:Th) (rs:List Rgt) (h:∀r∈rs,r.claims.length≤32):(againstL I t rs).length≤32*rs.length:=by
 induction rs with
 |nil=>simp[againstL]
 |cons r rs ih=>
  have h1:=againstR_len I t r;have h2:=h r (by simp);have h3:=ih λx hx=>h x (by simp[hx]);simp only[againstL,List.flatMap_cons,List.length_append,List.length_cons]at*;omega
theorem p261e (l:List Clm) (hl:∀c∈l,c.ok) (hn:l.length≤2^40) (hz:clmsE l≠0) (i:Int):PSp Tryz.prog GLx 56 [.list (l.map Clm.V),.int .i64 i] [.int .i64 (clmsE l)]:=by
 refine psp_of_awp (Zkk 56) rfl ?_;have q:=(p126 l hl hn).fsp;generalize clmsE l=E at*;simp at q;simp only[Zga 56,awp_seq,awp_reg,awp_cond,Zge 56 0,Zge 56 1,entry];simp;refine⟨_,_,q _,?_⟩;simp[Zge 56 2,hz,Zge 56 3,awp_ret,Zgr 56]
theorem p63e (l:List Clm) (hl:∀c∈l,c.ok) (hn:l.length≤2^40) (hz:clmsE l≠0) (i:Int):PSp Tryz.prog GLx 36 [.list (l.map Clm.V),.int .i64 i] [.int .i64 (clmsE l)]:=by
 refine psp_of_awp (Zkk 36) rfl ?_;have q:=(p138 l hl hn).fsp;generalize clmsE l=E at*;simp only[Zga 36,awp_seq,awp_reg,awp_cond,Zge 36 0,Zge 36 1,entry];simp at q ⊢;refine⟨_,_,q _,?_⟩;simp[Zge 36 2,hz,Zge 36 3,awp_ret,Zgr 36]
def firstN (l:List Int):Int:=(l.find? λe=>decide (e≠0)).getD 0
theorem firstN_app (a b:List Int):firstN (a++b)=if firstN a=0 then firstN b else firstN a:=by
 unfold firstN;rw[List.find?_append];cases h:a.find? λe=>decide (e≠0)with
 |none=>simp
 |some x=>
  have:x≠0:=by simpa using List.find?_some h
  simp[this]
theorem firstN_one (e:Int):firstN [e]=e:=by
 unfold firstN;by_cases h:e=0<;>simp[h]
theorem firstN_snoc {l:List Int} (h:firstN l=0) (e:Int):firstN (l++[e])=e:=by rw[firstN_app,if_pos h,firstN_one]
theorem firstN_pre {a b:List Int} (h:firstN a≠0):firstN (a++b)=firstN a:=by rw[firstN_app,if_neg h]
def mE (r:Rgt) (i:Int):Int:=if clmsE r.claims=0 then formE (meanAt r.claims i) else clmsE r.claims
def mF (r:Rgt) (i:Int):F:=if mE r i=0 then meanAt r.claims i else noF
def hE (nc:Int) (r:Rgt) (i:Int) (t:Th):Int:=if clmsE r.claims=0 then hldE nc (meanAt r.claims i) t else clmsE r.claims
theorem mE_z {r:Rgt} {i:Int} (h:mE r i=0):clmsE r.claims=0:=by
 unfold mE at h;split at h
 ·assumption
 ·exact absurd h ‹_›
theorem hE_z {nc:Int} {r:Rgt} {i:Int} {t:Th} (h:mE r i=0):hE nc r i t=hldE nc (meanAt r.claims i) t:=by
 unfold hE;rw[if_pos (mE_z h)]
theorem hE_form {nc:Int} {r:Rgt} {i:Int} {t:Th} (h:mE r i≠0):hE nc r i t=mE r i:=by
 unfold hE mE at*;split
 ·rename_i hz;rw[if_pos hz]at h;unfold hldE;rw[if_pos h]
 ·rfl
def errR (nc:Int) (t:Th) (r:Rgt):List Int:=(liveR r).map λi=>hE nc r i t
def axE (nc:Int) (t:Th) (rs:List Rgt):Int:=if thE t≠0 then thE t else firstN (rs.flatMap (errR nc t))
def axL (nc:Int) (I:Int→Int→Bool) (t:Th) (rs:List Rgt):List (Int×Int):=if axE nc t rs=0 then againstL I t rs else []
structure Rgt.fair (r:Rgt):Prop where
 bad:r.bad.length≤2^40
 len:r.claims.length≤32
 ok:∀c∈r.claims,c.ok
 mean:clmsE r.claims=0→∃g,MeanX r.claims g
theorem Rgt.fair.okAt {r:Rgt} (h:r.fair) {i:Int} (h0:mE r i=0) (hi:0≤i∧i <r.claims.length):(meanAt r.claims i).ok:=(h.mean (mE_z h0)).choose_spec.okAt hi
theorem Rgt.fair.q163 {r:Rgt} (h:r.fair) (i:Nat) (hi:i <r.claims.length):PSp Tryz.prog GLx 31 [.list (r.claims.map Clm.V),.int .i64 i] [(mF r i).V,.int .i64 (mE r i)]:=by
 by_cases hz:clmsE r.claims=0
 ·have q:=p163x r.claims _ (h.mean hz).choose_spec hz i hi;have e:mE r i=formE (meanAt r.claims i):=by unfold mE;rw[if_pos hz]
  unfold mF;rw[e];exact q
 ·have e:mE r i=clmsE r.claims:=by unfold mE;rw[if_neg hz]
  unfold mF;rw[e,if_neg hz];refine psp_of_awp (Zkk 31) rfl ?_;have q1:=(p261e r.claims h.ok (by have:=h.len;omega) hz i).fsp;generalize clmsE r.claims=E at*;simp at q1;simp only[Zga 31,awp_seq,awp_reg,awp_cond,Zge 31 0,Zge 31 1,entry,noF];simp[F.V_eq];refine⟨_,_,q1 _,?_⟩;simp[Zge 31 2,hz,Zge 31 3,putL,awp_ret,Zgr 31,D.vs?,D.v?]
theorem Rgt.fair.q274 {r:Rgt} (h:r.fair) (i:Nat) (hi:i <r.claims.length):PSp Tryz.prog GLx 29 [.list (r.claims.map Clm.V),.int .i64 i] [(mF r i).V,.int .i64 (mE r i)]:=by
 by_cases hz:clmsE r.claims=0
 ·have q:=p274x r.claims _ i hi (h.mean hz).choose_spec hz;have e:mE r i=formE (meanAt r.claims i):=by unfold mE;rw[if_pos hz]
  unfold mF;rw[e];exact q
 ·have e:mE r i=clmsE r.claims:=by unfold mE;rw[if_neg hz]
  unfold mF;rw[e,if_neg hz];refine psp_of_fsp (args:=[_,_]) (rets:=[_,_]) ?_;refine fsp_low (Zkk 29) rfl (Nat.le_refl _) (by intro row h;cases h) (by simp[D.lt]) ?_;have q1:=(p63e r.claims h.ok (by have:=h.len;omega) hz i).fsp;generalize clmsE r.claims=E at*;simp at q1;simp only[Zga 29,awp_seq,awp_reg,awp_cond,Zge 29 0,entryD,noF];simp[F.V_eq];simp only[Zge 29 1];simp;refine⟨_,_,q1 _,?_⟩;simp[Zge 29 2,hz,Zge 29 3,putL,awp_ret,Zgr 29,D.vs?,D.v?,D.one?]
set_option maxRecDepth 100000 in
set_option maxHeartbeats 2000000 in
theorem l73x {I:Int→Int→Bool} {pa:List V} (hp:pa.length≤2^40) (hI:∀a b:Int,0≤a→a <pa.length→0≤b→b <pa.length→PSp Tryz.prog GLx 100 [.list pa,.int .i64 a,.int .i64 b] [.bool (I a b)])
  (t:Th) (ht:t.ok) (hs:t.size≤2^40) (rs:List Rgt) (i:Nat) (r:Rgt) (hr:rs[i]?=some r) (hf:r.fair) (acc:List (Int×Int)) (hacc:acc.length+(liveR r).length≤2^40) (J:List Row) (Q:AExit→St→Prop)
  (hQ:firstN (errR pa.length t r)=0→∀e J,find e 0= .v (.list pa)→find e 1= .v (.list (rs.map Rgt.V))→find e 5= .ref 0 0→find e 9= .own 102 2 ((acc++againstR I t r).map clmV)→find e 10= .v (.int .i64 i)→Q (.exit 2) ⟨e,.cells t.cells::J⟩)
  (hR:firstN (errR pa.length t r)≠0→∀e J,find e 6= .own 102 2 []→find e 7= .v (.int .i64 (firstN (errR pa.length t r)))→Q .ret ⟨e,J⟩):
  awp Tryz.prog GLx (.loop (lG 14 1)) Q ⟨[(0,.v (.list pa)),(1,.v (.list (rs.map Rgt.V))),(5,.ref 0 0),(9,.own 102 2 (acc.map clmV)),(10,.v (.int .i64 i)),(11,.v (nums .i64 (liveR r))),(12,.v (.int .i64 0))],.cells t.cells::J⟩:=by
 obtain⟨lv,hlv⟩:∃lv,liveR r=lv:=⟨_,rfl⟩;have hag:againstR I t r=(lv.filter λx=>(meanAt r.claims x).hold I t).map λx=>(r.file,x):=by unfold againstR;rw[hlv]
 have her:errR pa.length t r=lv.map λx=>hE pa.length r x t:=by unfold errR;rw[hlv]
 rw[hag,her]at hQ;rw[her]at hR;have hlt:=λx (hx:x∈lv)=>liveR_lt (r:=r) (i:=x) (by rw[hlv];exact hx);have hlen:lv.length≤r.claims.length:=by rw[←hlv];exact liveR_len r
 have h32:=hf.len;rw[hlv]at hacc ⊢;refine awp_loop_I lv.length (λk s=>firstN ((lv.take k).map λx=>hE pa.length r x t)=0∧∃J,s=⟨[(0,.v (.list pa)),(1,.v (.list (rs.map Rgt.V))),(5,.ref 0 0),(9,.own 102 2 ((acc++((lv.take k).filter λx=>(meanAt r.claims x).hold I t).map λx=>(r.file,x)).map clmV)),(10,.v (.int .i64 i)),(11,.v (nums .i64 lv)),(12,.v (.int .i64 k))],.cells t.cells::J⟩) ⟨rfl,J,by simp⟩ ?_;rintro k s hk ⟨hz,J,rfl⟩;simp only[Zgl 14 1,awp_seq,awp_reg,awp_block,awp_cond,Zge 14 10,nums];by_cases h1:k <lv.length
 ·obtain⟨x,hx⟩:∃x,lv[k]?=some x:=⟨_,List.getElem?_eq_getElem h1⟩;have hxm:=List.mem_of_getElem? hx;have hw:IntKind.i64.wrap ((k:Int)+1)=k+1:=wrap_i64 (by omega) (by omega);obtain⟨m,rfl⟩:∃m:Nat,x=m:=⟨x.toNat,by have:=hlt x hxm;omega⟩;have hm:=hlt _ hxm;have q1:=hf.q163 m (by omega);have q2:=λh0:mE r m=0=>(p164 hp hI (meanAt r.claims m) (hf.okAt h0 hm) t ht hs).fsp;have hq:=λh0:mE r m=0=>hE_z (nc:=pa.length) (t:=t) h0;have hsn:firstN ((lv.take (k+1)).map λx=>hE pa.length r x t)=hE pa.length r m t:=by
   rw[List.take_add_one,hx,List.map_append];exact firstN_snoc hz _
  have hpre:hE pa.length r m t≠0→firstN (lv.map λx=>hE pa.length r x t)=hE pa.length r m t:=λh=>by
   have e:lv.map (λx=>hE pa.length r x t)=(lv.take (k+1)).map (λx=>hE pa.length r x t)++(lv.drop (k+1)).map (λx=>hE pa.length r x t):=by
    rw[←List.map_append,List.take_append_drop]
   rw[e,firstN_pre (by rw[hsn];exact h),hsn]
  have htake:(lv.take (k+1)).filter (λx=>(meanAt r.claims x).hold I t)=(lv.take k).filter (λx=>(meanAt r.claims x).hold I t)++(if (meanAt r.claims m).hold I t then [(m:Int)] else []):=by
   rw[List.take_add_one,hx,List.filter_append]
   congr 1
   simp only[Option.toList_some,List.filter_cons,List.filter_nil]
  have hfl:((lv.take k).filter λx=>(meanAt r.claims x).hold I t).length≤k:=by
   have:=List.length_filter_le (λx=>(meanAt r.claims x).hold I t) (lv.take k);rw[List.length_take]at this;omega
  have hR:=λh=>hR (by rw[hpre h];exact h);have hfo:mE r m≠0→hE pa.length r m t=mE r m:=hE_form;rw[htake,hsn];generalize firstN (lv.map λx=>hE pa.length r x t)=FN at*;generalize hE pa.length r m t=HE at*;generalize (lv.take k).filter (λx=>(meanAt r.claims x).hold I t)=FL at*;generalize (meanAt r.claims m).hold I t=B at*;unfold mF at q1;generalize mE r m=FE at*;generalize meanAt r.claims m=M at*;have hroom:roomy (acc.length+FL.length+1) 16=true:=by simp[roomy];omega
  by_cases hfe:FE=0
  ·subst hfe;have q2:=q2 rfl;rw[←hq rfl]at q2;obtain⟨mo,mn,mi,mk⟩:=M;obtain⟨tc,tv,tp⟩:=t;simp only[F.V_eq,Th.V_eq,nums,if_true]at q1 q2;simp at q1 q2;simp[h1,awp_skip];simp only[awp_regD,Zge 14 12];simp[hr,hx,Rgt.V,Rgt.cs];refine⟨_,_,⟨rfl,rfl⟩,_,q1,?_⟩;simp[putL];simp only[Zge 14 13];simp;simp only[Zge 14 15,Th.cells,Th.cs,Th.vs,Th.ps,nums];simp;refine⟨_,_,q2 _,?_⟩;by_cases hhe:HE=0
   ·subst hhe;simp[Zge 14 16,Zge 14 18];cases B with
    |false=>
     simp[Zge 14 11,hw]
    |true=>
     simp only[Zge 14 19];simp[hr,hx,Rgt.V,Rgt.cs,hroom,putL];simp[Zge 14 11,hw,clmV]
   ·have hpe:=hpre hhe;subst hpe;have hR:=hR hhe;simp[hhe,Zge 14 16,awp_ret,Zge 14 17];exact hR _ _ rfl rfl
  ·have hhe:=hfo hfe;subst hhe;have hpe:=hpre hfe;subst hpe;have hR:=hR hfe;rw[if_neg hfe]at q1;simp only[noF,F.V_eq]at q1;simp at q1;simp[h1,awp_skip];simp only[awp_regD,Zge 14 12];simp[hr,hx,Rgt.V,Rgt.cs];refine⟨_,_,⟨rfl,rfl⟩,_,q1,?_⟩;simp[putL];simp only[Zge 14 13];simp[hfe];simp[awp_ret,Zge 14 14];exact hR _ _ rfl rfl
 ·have hk2:k=lv.length:=by omega
  subst hk2;rw[List.take_length]at hz ⊢;have hQ:=hQ hz;simp at hQ;simp[awp_exit];exact hQ _ _ rfl rfl rfl rfl rfl
theorem flat_step {α β:Type} (f:α→List β) {l:List α} {k:Nat} {x:α} (hx:l[k]?=some x):(l.take (k+1)).flatMap f=(l.take k).flatMap f++f x:=by
 rw[List.take_add_one,hx,List.flatMap_append];simp
theorem first_hit {α:Type} (f:α→List Int) {l:List α} {k:Nat} {x:α} (hx:l[k]?=some x) (hz:firstN ((l.take k).flatMap f)=0) (h:firstN (f x)≠0):firstN (l.flatMap f)=firstN (f x):=by
 have e:l.flatMap f=(l.take (k+1)).flatMap f++(l.drop (k+1)).flatMap f:=by rw[←List.flatMap_append,List.take_append_drop]
 have h2:firstN ((l.take (k+1)).flatMap f)=firstN (f x):=by rw[flat_step f hx,firstN_app,if_pos hz]
 rw[e,firstN_pre (by rw[h2];exact h),h2]
set_option maxRecDepth 100000 in
set_option maxHeartbeats 2000000 in
theorem p73x {I:Int→Int→Bool} {pa:List V} (hp:pa.length≤2^40) (hI:∀a b:Int,0≤a→a <pa.length→0≤b→b <pa.length→PSp Tryz.prog GLx 100 [.list pa,.int .i64 a,.int .i64 b] [.bool (I a b)])
  (t:Th) (ht:t.ok) (hs:t.size≤2^40) (rs:List Rgt) (hn:rs.length≤2^20) (hrs:∀r∈rs,r.fair):
  PSp Tryz.prog GLx 14 [.list pa,.list (rs.map Rgt.V),t.V] [.list ((axL pa.length I t rs).map clmV),.int .i64 (axE pa.length t rs)]:=by
 refine psp_of_awp (Zkk 14) rfl ?_;unfold axL;obtain⟨E,hE⟩:∃E,axE pa.length t rs=E:=⟨_,rfl⟩;rw[hE];unfold axE at hE;have q1:=(p103 t ht hs).fsp;have hA:=λa b=>l73x hp hI t ht hs rs a b;simp only[Zga 14,awp_seq,awp_reg,awp_block,awp_cond,Zge 14 0,Zge 14 1,entry];by_cases hte:thE t=0
 ·rw[hte]at q1 hE;simp at hE;obtain⟨tc,tv,tp⟩:=t;simp only[Th.V_eq,nums]at q1;simp at q1;simp[Th.V_eq,nums];refine⟨_,_,q1 _,?_⟩;simp[Zge 14 2,awp_skip,Zge 14 4,Zge 14 5];refine awp_loop_I rs.length (λk s=>firstN ((rs.take k).flatMap (errR pa.length (.mk tc tv tp)))=0∧∃J,s=⟨[(0,.v (.list pa)),(1,.v (.list (rs.map Rgt.V))),(5,.ref 0 0),(9,.own 102 2 ((againstL I (.mk tc tv tp) (rs.take k)).map clmV)),(10,.v (.int .i64 k))],.cells (Th.mk tc tv tp).cells::J⟩) ⟨rfl,[],by simp[againstL,Th.cells,Th.cs,Th.vs,Th.ps,nums]⟩ ?_;rintro k s hk ⟨hz,J,rfl⟩;simp only[Zgl 14 0,awp_seq,awp_reg,awp_block,awp_cond,Zge 14 6];by_cases h1:k <rs.length
  ·obtain⟨r,hr⟩:∃r,rs[k]?=some r:=⟨_,List.getElem?_eq_getElem h1⟩;have hrm:=List.mem_of_getElem? hr;have hf:=hrs r hrm;have hw:IntKind.i64.wrap ((k:Int)+1)=k+1:=wrap_i64 (by omega) (by omega);have q2:=(p162 r (by have:=hf.len;omega) hf.bad).fsp;have hl2:=liveR_len r;have hml:=hf.len;have htake:againstL I (.mk tc tv tp) (rs.take (k+1))=againstL I (.mk tc tv tp) (rs.take k)++againstR I (.mk tc tv tp) r:=flat_step _ hr;have hft:firstN ((rs.take (k+1)).flatMap (errR pa.length (.mk tc tv tp)))=firstN (errR pa.length (.mk tc tv tp) r):=by rw[flat_step _ hr,firstN_app,if_pos hz]
   have hfh:=first_hit (errR pa.length (.mk tc tv tp)) hr hz;rw[hE]at hfh;have hal:=againstL_len I (.mk tc tv tp) (rs.take k) λx hx=>(hrs x (List.mem_of_mem_take hx)).len;rw[List.length_take]at hal;have hloop:=λJ Q=>hA k r hr hf (againstL I (.mk tc tv tp) (rs.take k)) (by omega) J Q;rw[htake,hft];generalize firstN (errR pa.length (.mk tc tv tp) r)=FR at*;generalize againstL I (.mk tc tv tp) (rs.take k)=acc at*;generalize againstR I (.mk tc tv tp) r=ag at*;simp only[Rgt.V,Rgt.cs,nums]at q2 hloop;simp at q2;simp[h1,awp_skip];simp only[Zge 14 8];simp[hr,Rgt.V,Rgt.cs,nums];refine⟨_,_,q2 _,?_⟩;simp[Zge 14 9];refine hloop _ _ ?_ ?_
   ·rintro h0 e J f0 f1 f5 f9 f10;simp[Zge 14 7,f0,f1,f5,f9,f10,hw,h0]
   ·intro h0 e J f6 f7;have hE7:=hfh h0;rw[←hE7]at f7 h0;simp[Zgr 14,f6,f7,h0]
  ·have hk2:k=rs.length:=by omega
   subst hk2;rw[List.take_length]at hz ⊢;rw[hz]at hE;subst hE;simp[awp_exit,Zge 14 20,awp_ret,Zgr 14]
 ·rw[if_pos (by simpa using hte)]at hE;rw[hE]at q1;have hne:¬E=0:=by rw[←hE];exact hte
  obtain⟨tc,tv,tp⟩:=t;simp only[Th.V_eq,nums]at q1;simp at q1;simp[Th.V_eq,nums];refine⟨_,_,q1 _,?_⟩;simp[Zge 14 2,hne,Zge 14 3,awp_ret,Zgr 14]
set_option maxRecDepth 100000 in
set_option maxHeartbeats 2000000 in
theorem l185x {ps:List V} {bs:List Bool} (hps:ps.length≤64) (hbs:bs.length=4096) (h:List Row) (x:Nat) (hx:h[x]?=some (taxR ps bs)) (hl:Low h) (t:Th) (ht:t.ok)
  (r:Rgt) (hr:r.fair) (O:List (Int×Int)) (hO:O.length≤2^20) (v24 v25 v26:V) (J:List Row) (hJ:Lows J) (a11:Nat)
  (ha11:(h++ .cells t.cells::J)[a11]?=some (.cells (r.cs.map .v))) (Q:AExit→St→Prop)
  (hQ:firstN (errR ps.length t r)=0→∀e J',Lows J'→find e 0= .ref x 0→find e 5= .ref h.length 0→find e 9= .own 66 2 ((O++againstR (isTx ps.length bs) t r).map clmV)→find e 24= .v v24→find e 25= .v v25→find e 26= .v v26→Q (.exit 2) ⟨e,h++ .cells t.cells::J'⟩)
  (hR:firstN (errR ps.length t r)≠0→∀e J',find e 6= .own 66 2 []→find e 7= .v (.int .i64 (firstN (errR ps.length t r)))→Q .ret ⟨e,h++J'⟩):
  awp Tryz.prog GLx (.loop (lG 13 1)) Q ⟨[(0,.ref x 0),(5,.ref h.length 0),(9,.own 66 2 (O.map clmV)),(11,.ref a11 0),(24,.v v24),(25,.v v25),(26,.v v26),(31,.v (nums .i64 (liveR r))),(32,.v (.int .i64 (liveR r).length)),(33,.v (.int .i64 (0:Nat)))],h++ .cells t.cells::J⟩:=by
 obtain⟨S,hS⟩:∃S,liveR r=S:=⟨_,rfl⟩;have hag:againstR (isTx ps.length bs) t r=(S.filter λx=>(meanAt r.claims x).hold (isTx ps.length bs) t).map λx=>(r.file,x):=by unfold againstR;rw[hS]
 have her:errR ps.length t r=S.map λx=>hE ps.length r x t:=by unfold errR;rw[hS]
 rw[hag,her]at hQ;rw[her]at hR;have hlt:=λx (hx:x∈S)=>liveR_lt (r:=r) (i:=x) (by rw[hS];exact hx);have hSn:S.length≤r.claims.length:=by rw[←hS];exact liveR_len r
 have h32:=hr.len;rw[hS];refine awp_loop_I S.length (λk s=>firstN ((S.take k).map λx=>hE ps.length r x t)=0∧∃J',Lows J'∧s=⟨[(0,.ref x 0),(5,.ref h.length 0),(9,.own 66 2 ((O++((S.take k).filter λi=>(meanAt r.claims i).hold (isTx ps.length bs) t).map λi=>(r.file,i)).map clmV)),(11,.ref a11 0),(24,.v v24),(25,.v v25),(26,.v v26),(31,.v (nums .i64 S)),(32,.v (.int .i64 S.length)),(33,.v (.int .i64 k))],
   h++ .cells t.cells::(J++J')⟩) ⟨rfl,[],Lows.nil,by simp⟩ ?_
 rintro k s hk ⟨hz,J',hJ',rfl⟩;simp only[Zgl 13 1,awp_seq,awp_reg,awp_block,awp_cond,Zge 13 11];simp[nums];by_cases hkl:k <S.length
 ·obtain⟨i,hi⟩:∃i,S[k]?=some i:=⟨_,List.getElem?_eq_getElem hkl⟩;have him:=hlt i (List.mem_of_getElem? hi);obtain⟨m,rfl⟩:∃m:Nat,i=m:=⟨i.toNat,by omega⟩;have w1:IntKind.i64.wrap ((k:Int)+1)=k+1:=wrap_i64 (by omega) (by omega);have htk2:S.take (k+1)=S.take k++[(m:Int)]:=by rw[List.take_add_one,hi];rfl
  have hget:∀Z,(h++ .cells t.cells::(J++Z))[a11]?=some (.cells (r.cs.map .v)):=λZ=>by have:=get_old Z ha11;simpa using this
  have q1:=(hr.q274 m (by omega)).fsp;have hq:=λh0:mE r m=0=>hE_z (nc:=ps.length) (t:=t) h0;have q2:=λ(h0:mE r m=0) (Z:List Row) (hZ:Lows Z)=>p25 hps hbs (meanAt r.claims m) (hr.okAt h0 him) t ht (h++ .cells t.cells::(J++Z)) x (get_old _ hx) (hl.lows (by
   intro row hrow n;rcases List.mem_cons.1 hrow with rfl|hrow
   ·exact low_T n t
   ·rcases List.mem_append.1 hrow with hrow|hrow
    ·exact hJ row hrow n
    ·exact hZ row hrow n))
  have hsn:firstN ((S.take (k+1)).map λx=>hE ps.length r x t)=hE ps.length r m t:=by
   rw[htk2,List.map_append];exact firstN_snoc hz _
  have hpre:hE ps.length r m t≠0→firstN (S.map λx=>hE ps.length r x t)=hE ps.length r m t:=λh=>by
   have e:S.map (λx=>hE ps.length r x t)=(S.take (k+1)).map (λx=>hE ps.length r x t)++(S.drop (k+1)).map (λx=>hE ps.length r x t):=by
    rw[←List.map_append,List.take_append_drop]
   rw[e,firstN_pre (by rw[hsn];exact h),hsn]
  have hlen:((S.take k).filter λi=>(meanAt r.claims i).hold (isTx ps.length bs) t).length≤k:=by
   have:=List.length_filter_le (λi=>(meanAt r.claims i).hold (isTx ps.length bs) t) (S.take k);rw[List.length_take]at this;omega
  have hfs:((S.take (k+1)).filter λi=>(meanAt r.claims i).hold (isTx ps.length bs) t)=((S.take k).filter λi=>(meanAt r.claims i).hold (isTx ps.length bs) t)++(if (meanAt r.claims m).hold (isTx ps.length bs) t then [(m:Int)] else []):=by
   rw[htk2,List.filter_append,List.filter_cons,List.filter_nil]
  have hR:=λh=>hR (by rw[hpre h];exact h);have hfo:mE r m≠0→hE ps.length r m t=mE r m:=hE_form;rw[List.map_take]at hsn;rw[hfs,hsn];generalize firstN (S.map λx=>hE ps.length r x t)=FN at*;generalize hE ps.length r m t=HE at*;generalize ((S.take k).filter λi=>(meanAt r.claims i).hold (isTx ps.length bs) t)=L at*;generalize (meanAt r.claims m).hold (isTx ps.length bs) t=B at*;unfold mF at q1;generalize mE r m=FE at*;generalize meanAt r.claims m=f at*;have hroom:roomy (O.length+L.length+1) 16=true:=by simp[roomy];omega
  by_cases hfe:FE=0
  ·subst hfe;have q2:=q2 rfl;rw[←hq rfl]at q2;rw[if_pos rfl]at q1;have hlows:∀n,Row.low n (.cells f.cells)=true:=λn=>low_F n f;obtain⟨fo,fn,fi,fk⟩:=f;obtain⟨cs,vs,pa⟩:=t;obtain⟨file,state,force,claims,dates,bad,owners,lics⟩:=r;simp only[F.cells,F.op,F.n,F.ins,F.kids,F.V_eq,Th.cells,Th.cs,Th.vs,Th.ps,Th.V_eq,Rgt.cs,nums]at*;simp at q1 hget;have q2':=q2 _ (hJ'.app hlows)
   try simp at q2'
   rw[if_pos (by omega),awp_skip];simp only[Zge 13 12];simp[hi];simp only[Zge 13 13];simp[hget];refine⟨_,_,q1 _,?_⟩;simp[putL,Zge 13 14,awp_skip];simp only[Zge 13 16];simp;refine⟨_,_,q2',?_⟩;by_cases hhe:HE=0
   ·subst hhe;simp[Zge 13 17,Zge 13 19];cases B with
    |false=>
     simp[Zge 13 21,w1,hkl];exact hJ'.app hlows
    |true=>
     simp[Zge 13 20,hget,hroom,Zge 13 21,w1,hkl,clmV,putL];exact hJ'.app hlows
   ·have hpe:=hpre hhe;subst hpe;have hR:=hR hhe;simp[hhe,Zge 13 17,Zge 13 18,awp_ret];exact hR _ _ rfl rfl
  ·have hhe:=hfo hfe;subst hhe;have hpe:=hpre hfe;subst hpe;have hR:=hR hfe;rw[if_neg hfe]at q1;obtain⟨file,state,force,claims,dates,bad,owners,lics⟩:=r;simp only[noF,F.V_eq,Rgt.cs,nums]at*;simp at q1 hget;rw[if_pos (by omega),awp_skip];simp only[Zge 13 12];simp[hi];simp only[Zge 13 13];simp[hget];refine⟨_,_,q1 _,?_⟩;simp[hfe,putL,Zge 13 14];simp[Zge 13 15,awp_ret];exact hR _ _ rfl rfl
 ·have hk2:k=S.length:=by omega
  subst hk2;rw[if_neg (by omega),awp_exit];have hJJ:Lows (J++J'):=by
   intro row hrow n;rcases List.mem_append.1 hrow with hrow|hrow
   ·exact hJ row hrow n
   ·exact hJ' row hrow n
  rw[List.take_length]at hz ⊢;exact hQ hz _ _ hJJ rfl rfl (by simp) rfl rfl rfl
set_option maxRecDepth 100000 in
set_option maxHeartbeats 2000000 in
theorem p185x {ps:List V} {bs:List Bool} (hps:ps.length≤64) (hbs:bs.length=4096) (h:List Row) (x:Nat) (hx:h[x]?=some (taxR ps bs)) (hl:Low h) (t:Th) (ht:t.ok)
  (rs:List Rgt) (hr:∀r∈rs,r.fair) (hrl:rs.length≤2^10):
  FSp Tryz.prog GLx 13 [.ref x 0,.v (.list (rs.map Rgt.V)),.v t.V] h [.own 66 2 ((axL ps.length (isTx ps.length bs) t rs).map clmV),.v (.int .i64 (axE ps.length t rs))] h:=by
 refine fsp_low (Zkk 13) rfl (Nat.le_refl _) hl (by simp[D.lt]) ?_;unfold axL;obtain⟨E,hE⟩:∃E,axE ps.length t rs=E:=⟨_,rfl⟩;rw[hE];unfold axE at hE;have q67:=(p67 t ht).fsp;have hth:t.V= .agg [nums .i64 t.cs,.list (t.vs.map Val.V),.list (t.ps.map Th.V)]:=by obtain⟨a,b,c⟩:=t;exact Th.V_eq ..
 by_cases hte:thE t=0
 ·rw[hte]at q67 hE;simp at hE;have hloop:∀(Q:AExit→St→Prop),(E=0→∀e J',find e 9= .own 66 2 ((againstL (isTx ps.length bs) t rs).map clmV)→Q (.exit 0) ⟨e,h++ .cells t.cells::J'⟩)→(E≠0→∀e J',find e 6= .own 66 2 []→find e 7= .v (.int .i64 E)→Q .ret ⟨e,h++J'⟩)→
    awp Tryz.prog GLx (.loop (lG 13 0)) Q ⟨[(0,.ref x 0),(5,.ref h.length 0),(9,.own 66 2 []),(24,.v (.list (rs.map Rgt.V))),(25,.v (.int .i64 rs.length)),(26,.v (.int .i64 (0:Nat)))],h++[.cells t.cells]⟩:=by
   intro Q hQ hR;clear q67 hth;refine awp_loop_I rs.length (λk s=>firstN ((rs.take k).flatMap (errR ps.length t))=0∧∃J',Lows J'∧s=⟨[(0,.ref x 0),(5,.ref h.length 0),(9,.own 66 2 ((againstL (isTx ps.length bs) t (rs.take k)).map clmV)),(24,.v (.list (rs.map Rgt.V))),(25,.v (.int .i64 rs.length)),(26,.v (.int .i64 k))],
     h++ .cells t.cells::J'⟩) ⟨rfl,[],Lows.nil,by simp[againstL]⟩ ?_
   rintro k s hk ⟨hz,J',hJ',rfl⟩;rw[c185l0_eq];simp only[awp_seq,awp_reg,awp_block,awp_cond,Zge 13 8];simp;by_cases hkl:k <rs.length
   ·obtain⟨r,hri⟩:∃r,rs[k]?=some r:=⟨_,List.getElem?_eq_getElem hkl⟩;have hrm:=List.mem_of_getElem? hri;have hrr:=hr r hrm;have w1:IntKind.i64.wrap ((k:Int)+1)=k+1:=wrap_i64 (by omega) (by omega);have hfs:againstL (isTx ps.length bs) t (rs.take (k+1))=againstL (isTx ps.length bs) t (rs.take k)++againstR (isTx ps.length bs) t r:=flat_step _ hri;have hft:firstN ((rs.take (k+1)).flatMap (errR ps.length t))=firstN (errR ps.length t r):=by rw[flat_step _ hri,firstN_app,if_pos hz]
    have hfh:=first_hit (errR ps.length t) hri hz;rw[hE]at hfh;have hOl:=againstL_len (isTx ps.length bs) t (rs.take k) λy hy=>(hr y (List.mem_of_mem_take hy)).len;rw[List.length_take]at hOl;have hc8:=hrr.len;have q1:=(p273 r (by omega) hrr.bad).fsp;have hlive:=liveR_len r;have hcsl:∀n,Row.low n (.cells (r.cs.map .v))=true:=λn=>by simp only[Row.low];exact low_V _
    have hlp:=λQ=>l185x hps hbs h x hx hl t ht r hrr (againstL (isTx ps.length bs) t (rs.take k)) (by omega) (.list (rs.map Rgt.V)) (.int .i64 rs.length) (.int .i64 k) (J'++[.cells (r.cs.map .v)]) (hJ'.app hcsl) (h.length+(J'.length+1)) (by simp) Q;rw[hfs,hft];generalize firstN (errR ps.length t r)=FR at*;generalize againstR (isTx ps.length bs) t r=AG at*;generalize againstL (isTx ps.length bs) t (rs.take k)=O at*;rw[if_pos (by omega),awp_skip];simp only[Zge 13 9];generalize hLR:liveR r=LR at*;obtain⟨file,state,force,claims,dates,bad,owners,lics⟩:=r;simp only[Rgt.V,Rgt.cs,nums]at*;simp at q1;simp[hri,Rgt.V,Rgt.cs,nums,putL];unfold c185B;simp only[awp_seq,awp_reg,awp_block,Zge 13 10];simp;refine⟨_,_,q1 _,?_⟩;simp;simp at hlp;refine hlp _ ?_ ?_
    ·intro h0 e J2 hJ2 g0 g5 g9 g24 g25 g26;simp[Zge 13 22,g0,g5,g9,g24,g25,g26,w1,hkl,h0];exact hJ2
    ·intro h0 e J2 g6 g7;have hE7:=hfh h0;rw[←hE7]at g7 h0;exact hR h0 e J2 g6 g7
   ·have hk2:k=rs.length:=by omega
    subst hk2;rw[if_neg (by omega),awp_exit,List.take_length];rw[List.take_length]at hz;exact hQ (by rw[←hE];exact hz) _ _ rfl
  rw[hth]at q67 ⊢;generalize againstL (isTx ps.length bs) t rs=AL at*;simp only[Th.cells]at hloop;simp[nums]at q67 hloop;simp only[Zga 13,awp_seq,awp_reg,awp_block,awp_cond,Zge 13 0,Zge 13 1,entryD];simp[nums,awp_skip,Zge 13 3];refine⟨_,_,q67 _,?_⟩;simp[Zge 13 4,Zge 13 6,Zge 13 7];refine hloop _ ?_ ?_
  ·rintro rfl e J g9;simp[Zge 13 23,g9,awp_ret,Zgr 13]
  ·intro h0 e J g6 g7;simp[Zgr 13,g6,g7,h0]
 ·rw[if_pos (by simpa using hte)]at hE;have hne:¬E=0:=by rw[←hE];exact hte
  rw[hE]at q67;rw[hth]at q67 ⊢;simp[nums]at q67;simp only[Zga 13,awp_seq,awp_reg,awp_block,awp_cond,Zge 13 0,Zge 13 1,entryD];simp[nums,awp_skip,Zge 13 3];refine⟨_,_,q67 _,?_⟩;simp[hne,Zge 13 4,Zge 13 5,awp_ret,Zgr 13]
end Go.Va
