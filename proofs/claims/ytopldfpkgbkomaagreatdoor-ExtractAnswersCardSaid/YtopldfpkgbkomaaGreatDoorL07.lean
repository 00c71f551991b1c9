/- Laws that ExtractAnswers leans on, part 7. No condition of its own. -/
import Derived.Test.YtopldfpkgbkomaaGreatDoorL06
set_option linter.all false
set_option maxRecDepth 100000
set_option maxHeartbeats 4000000
noncomputable section
namespace Go.Va
inductive F where
 |mk (op n:Int) (ins:List Ivl) (kids:List F)
def F.op:F→Int| .mk o _ _ _=>o
def F.n:F→Int| .mk _ n _ _=>n
def F.ins:F→List Ivl| .mk _ _ i _=>i
def F.kids:F→List F| .mk _ _ _ k=>k
theorem F.ind {p:F→Prop} (h:∀op n ins kids,(∀k∈kids,p k)→p (.mk op n ins kids)) (f:F):p f:=
 F.rec (motive_1:=p) (motive_2:=λl=>∀k∈l,p k) (λop n ins kids ih=>h op n ins kids ih) (λk hk=>by cases hk)
  (λx xs hx hxs k hk=>by cases hk with|head=>exact hx|tail _ hk=>exact hxs k hk) f
mutual
def F.V:F→V| .mk op n ins kids=> .agg [.int .i64 op,.int .i64 n,.list (ins.map Ivl.V),.list (F.Vs kids)]
def F.Vs:List F→List V|[]=>[]|k::ks=>k.V::F.Vs ks
end
theorem F.Vs_map:∀l,F.Vs l=l.map F.V
 |[]=>rfl
 |k::ks=>by simp[F.Vs,F.Vs_map ks]
mutual
def F.nodes:F→List F| .mk op n ins kids=> .mk op n ins kids::F.nodess kids
def F.nodess:List F→List F|[]=>[]|k::ks=>k.nodes++F.nodess ks
end
theorem F.nodess_map:∀l,F.nodess l=l.flatMap F.nodes
 |[]=>rfl
 |k::ks=>by simp[F.nodess,F.nodess_map ks]
def F.size (f:F):Nat:=f.nodes.length
mutual
def F.depth:F→Nat| .mk _ _ _ kids=>F.depths kids+1
def F.depths:List F→Nat|[]=>0|k::ks=>max k.depth (F.depths ks)
end
theorem F.size_eq (op n:Int) (ins:List Ivl) (kids:List F):(F.mk op n ins kids).size=1+(kids.map F.size).sum:=by
 unfold F.size;simp only[F.nodes,oj,F.nodess_map,pY];have e:(λf:F=>f.size)=λf=>f.nodes.length:=rfl;rw[Nat.add_comm]
theorem F.kid_size {f:F} {kids:List F} (h:f∈kids):f.size≤(kids.map F.size).sum:=by
 induction kids with
 |nil=>cases h
 |cons k ks ih=>
  simp only[oV,qL];cases h with
  |head=>omega
  |tail _ h=>have:=ih h;omega
theorem F.size_pos (f:F):1≤f.size:=by cases f;rw[F.size_eq];omega
theorem F.kids_len (kids:List F):kids.length≤(kids.map F.size).sum:=by
 induction kids with
 |nil=>simp
 |cons k ks ih=>have:=k.size_pos;simp only[oV,qL,oj];omega
theorem F.nodes_eq (op n:Int) (ins:List Ivl) (kids:List F):(F.mk op n ins kids).nodes= .mk op n ins kids::kids.flatMap F.nodes:=by
 simp[F.nodes,F.nodess_map]
theorem F.V_eq (op n:Int) (ins:List Ivl) (kids:List F):(F.mk op n ins kids).V= .agg [.int .i64 op,.int .i64 n,.list (ins.map Ivl.V),.list (kids.map F.V)]:=by
 simp[F.V,F.Vs_map]
theorem F.depth_le:∀f:F,f.depth≤f.size:=by
 refine F.ind λop n ins kids ih=>?_;rw[F.size_eq,F.depth];have:F.depths kids≤(kids.map F.size).sum:=by
  induction kids with
  |nil=>simp[F.depths]
  |cons k ks ihk=>
   have h1:=ih k (by simp);have h2:=ihk λx hx=>ih x (by simp[hx]);simp only[F.depths,oV,qL];omega
 omega
def F.ok1 (f:F):Prop:=i64 f.op∧i64 f.n∧(∀x∈f.ins,x.ok)∧f.ins.length≤2^40
def F.ok (f:F):Prop:=(∀g∈f.nodes,g.ok1)∧f.size≤2^40
theorem F.ok_kid {op n:Int} {ins:List Ivl} {kids:List F} (h:(F.mk op n ins kids).ok) {k:F} (hk:k∈kids):k.ok:=by
 refine⟨λg hg=>h.1 g ?_,?_⟩
 ·rw[F.nodes_eq];exact qZ _ (pP.2 ⟨k,hk,hg⟩)
 ·have:=h.2;rw[F.size_eq]at this;have:=F.kid_size hk;omega
def Az (f:F):Bool:=
 if (f.op≠2∧0 <f.ins.length)∨(f.op≠2∧f.op≠1∧f.n≠0) then false
 else if f.op=0 then f.kids.length==0
 else if f.op=1 then decide (f.kids.length=0∧0≤f.n∧f.n <64)
 else if f.op=2 then decide (f.kids.length=0∧0≤f.n∧f.n <32∧GX f.ins=0)
 else if f.op=3∨f.op=6 then f.kids.length==1
 else decide (f.op=4∨f.op=5)
def BR (f:F):Int:=if f.size>96∨f.depth>8 then 4 else if f.nodes.all Az then 0 else 1
open Go.Proofs
section
def F.cells (f:F):List D:=[.v (.int .i64 f.op),.v (.int .i64 f.n),.v (.list (f.ins.map Ivl.V)),.v (.list (f.kids.map F.V))]
theorem F.ok1_self {f:F} (h:f.ok):f.ok1:=h.1 f (by cases f;rw[F.nodes_eq];exact rG)
variable {k:Nat}
theorem SN {l:List F} {x:F} (hx:l[k]?=some x) (f:F→Nat):((l.map f).take (k+1)).sum=((l.map f).take k).sum+f x:=by
 rw[oW,oX,hx];simp
theorem Nu (l:List F) (k:Nat) (f:F→Nat):((l.map f).take k).sum≤(l.map f).sum:=by
 have:=congrArg (λl=>l.sum) (pQ k (l.map f));simp only[List.sum_append]at this;omega
theorem Mu {l:List F} {f:F→Nat}:(l.map f).take l.length=l.map f:=o6 (by simp)
theorem fz:∀f:F,f.ok→PX 285 [f.V] [.int .i64 f.size]:=by
 refine F.ind λop n ins kids ih hok=>?_;refine BJ 285 ?_;have hsz:=hok.2;rw[F.size_eq]at hsz ⊢;have hkl:=F.kids_len kids;simp only[Ai 285,AE,AF,AM,AA 285 0,AA 285 1,AA 285 2,AX];simp[F.V_eq];refine AN kids.length (λk=>⟨[(1,.ref 0 0),(3,.v (.int .i64 (1+((kids.map F.size).take k).sum:Nat))),(4,.v (.int .i64 k))],[.cells (F.mk op n ins kids).cells]⟩) (by simp[F.cells,F.op,F.n,F.ins,F.kids]) ?_;intro k hk;simp only[Zw,A8 285 0,AA 285 3,F.cells,F.op,F.n,F.ins,F.kids];simp;by_cases h1:k <kids.length
 ·obtain⟨x,hx⟩:∃x,kids[k]?=some x:=⟨_,oI h1⟩;have hxm:=oK hx;have hw:=Bb k;have p1:=(ih x hxm (F.ok_kid hok hxm)).fsp;have ht:=SN hx F.size;have hle:=Nu kids (k+1) F.size;have hw2:IntKind.i64.wrap (1+(((kids.map F.size).take k).sum:Int)+x.size)=1+(((kids.map F.size).take (k+1)).sum:Int):=by
   rw[AL];omega
  rw[if_pos (by omega),AD];simp only[AA 285 4,AA 285 5];obtain⟨xo,xn,xi,xk⟩:=x;simp[F.V_eq]at p1;simp[hx,F.V_eq];refine⟨_,_,p1 _,?_⟩;simp[hw,hw2,h1]
 ·have hk2:k=kids.length:=by omega
  subst hk2;rw[if_neg (by omega),AJ];simp[AB,AA 285 6,AW 285,Mu]
theorem KE {l:List F} {x:F} (hx:l[k]?=some x):F.depths (l.take (k+1))=max (F.depths (l.take k)) x.depth:=by
 induction l generalizing k with
 |nil=>simp at hx
 |cons y l ih=>
  cases k with
  |zero=>simp at hx;subst hx;simp[F.depths]
  |succ k=>simp at hx;simp only[ri,F.depths,ih hx];omega
theorem Mf (l:List F):F.depths l≤(l.map F.size).sum:=by
 induction l with
 |nil=>simp[F.depths]
 |cons k ks ih=>have:=F.depth_le k;simp only[F.depths,oV,qL];omega
theorem fy:∀f:F,f.ok→PX 286 [f.V] [.int .i64 f.depth]:=by
 refine F.ind λop n ins kids ih hok=>?_;refine BJ 286 ?_;have hsz:=hok.2;rw[F.size_eq]at hsz;have hkl:=F.kids_len kids;have hdl:=Mf kids;simp only[Ai 286,AE,AF,AM,AA 286 0,AA 286 1,AA 286 2,AX];simp[F.V_eq];refine AN kids.length (λk=>⟨[(1,.ref 0 0),(3,.v (.int .i64 (F.depths (kids.take k)))),(4,.v (.int .i64 k))],[.cells (F.mk op n ins kids).cells]⟩) (by simp[F.cells,F.op,F.n,F.ins,F.kids,F.depths]) ?_;intro k hk;simp only[Zw,A8 286 0,AA 286 3,F.cells,F.op,F.n,F.ins,F.kids];simp;by_cases h1:k <kids.length
 ·obtain⟨x,hx⟩:∃x,kids[k]?=some x:=⟨_,oI h1⟩;have hxm:=oK hx;have hw:=Bb k;have p1:=(ih x hxm (F.ok_kid hok hxm)).fsp;have ht:=KE hx;rw[if_pos (by omega),AD];simp only[AA 286 4,AA 286 5];obtain⟨xo,xn,xi,xk⟩:=x;simp[F.V_eq]at p1;simp[hx,F.V_eq];refine⟨_,_,p1 _,?_⟩;simp[hw,h1,ht];split<;>omega
 ·have hk2:k=kids.length:=by omega
  subst hk2;rw[if_neg (by omega),AJ];have hw2:IntKind.i64.wrap ((F.depths kids:Int)+1)=F.depths kids+1:=AL;simp[AB,AA 286 6,AW 286,hw2,F.depth]
end
theorem QY (n:Nat):((n:Int)==0)=(n==0):=by rw[pt];simp
theorem Kg (n:Nat):((n:Int)==1)=(n==1):=by rw[pt];simp;omega
def KS (f:F):Bool:=decide ((f.op≠2∧0 <f.ins.length)∨(f.op≠2∧f.op≠1∧f.n≠0))
theorem bI (f:F) (Q:AExit→St→Prop) (hQ:Q .normal ⟨[(1,.ref 0 0),(26,.v (.bool (KS f)))],[.cells f.cells]⟩):
  awp Tryz.prog Ah (.reg (oG 322 1) [1,26]) Q ⟨[(1,.ref 0 0)],[.cells f.cells]⟩:=by
 obtain⟨B,hB⟩:∃B,KS f=B:=⟨_,rfl⟩;rw[hB]at hQ;obtain⟨op,n,ins,kids⟩:=f;simp only[F.cells,KS,F.op,F.n,F.ins,F.kids]at*;rw[AF];simp only[AA 322 1];by_cases h2:op=2
 ·subst h2;simp at hB;subst hB;simpa using hQ
 ·by_cases hl:0 <ins.length
  ·have hl':0 <(ins.length:Int):=by omega
   simp[h2,hl]at hB;subst hB;simp[h2,hl];exact hQ
  ·have hl':¬0 <(ins.length:Int):=by omega
   have hl2:ins=[]:=by cases ins<;>simp_all
   subst hl2;by_cases h1:op=1
   ·subst h1;simp at hB;subst hB;simpa using hQ
   ·by_cases hn:n=0
    ·subst hn;simp at hB;subst hB;simp[h2,h1];exact hQ
    ·have hn2:(n != 0)=true:=by simpa using hn
     simp[h2,h1,hn]at hB;subst hB;simp[h2,h1,hn2];exact hQ
theorem KA {f:F} (h:KS f=true):Az f=false:=by
 unfold Az;unfold KS at h;rw[if_pos (of_decide_eq_true h)]
theorem I5 {f:F} (h:KS f=false):Az f=if f.op=0 then f.kids.length==0
 else if f.op=1 then decide (f.kids.length=0∧0≤f.n∧f.n <64)
 else if f.op=2 then decide (f.kids.length=0∧0≤f.n∧f.n <32∧GX f.ins=0)
 else if f.op=3∨f.op=6 then f.kids.length==1
 else decide (f.op=4∨f.op=5):=by
 unfold Az;unfold KS at h;rw[if_neg (of_decide_eq_false h)]
theorem fF (f:F) (hf:f.ok1):PX 322 [f.V] [.bool (Az f)]:=by
 refine BJ 322 ?_;obtain⟨R,hR⟩:∃R,Az f=R:=⟨_,rfl⟩;rw[hR];have hp:=(eu f.ins hf.2.2.1 hf.2.2.2).fsp;rw[Ai 322];rw[AE,AF];obtain⟨op,n,ins,kids⟩:=f;simp only[F.V_eq,F.ins]at*;simp[AA 322 0,AX];rw[AE,AE];have ha:=bI ⟨op,n,ins,kids⟩;simp only[F.cells,F.op,F.n,F.ins,F.kids]at ha;refine ha _ ?_;simp[AK];cases ho:KS ⟨op,n,ins,kids⟩with
 |true=>
  rw[KA ho]at hR;simp[AE,AF,AB,AA 322 2,AW 322,hR]
 |false=>
  rw[I5 ho]at hR;simp only[F.op,F.n,F.ins,F.kids]at hR;simp only[AD,if_neg sK];simp only[Zw,AA 322 3,AA 322 4];simp;by_cases h0:op=0
  ·subst h0;simp at hR;simp[AB,AA 322 5,AW 322,QY,hR]
  ·simp only[h0,if_false]at hR;simp[h0,AA 322 6];by_cases h1:op=1
   ·subst h1;simp at hR;simp[AB,AA 322 7];by_cases hk:kids.length=0
    ·have hk2:kids=[]:=sL.1 hk;subst hk2;by_cases b1:0≤n<;>by_cases b2:n <64<;>simp[b1,b2]at hR<;>simp[b1,b2,AW 322,hR]
    ·have hk2:¬kids=[]:=λh=>hk (by rw[h];rfl);simp[hk2]at hR;simp[hk2,AW 322,hR]
   ·simp only[h1,if_false]at hR;simp[h1,AA 322 8];by_cases h2:op=2
    ·subst h2;simp at hR;simp[AB,AA 322 9];by_cases hk:kids.length=0
     ·have hk2:kids=[]:=sL.1 hk;subst hk2;by_cases b1:0≤n<;>by_cases b2:n <32<;>simp[b1,b2]at hR<;>simp[b1,b2,AW 322,hR]
      refine⟨_,_,hp _,?_⟩;simp;rw[←hR,pt];simp
     ·have hk2:¬kids=[]:=λh=>hk (by rw[h];rfl);simp[hk2]at hR;simp[hk2,AW 322,hR]
    ·simp only[h2,if_false]at hR;simp[h2,AA 322 10];by_cases h3:op=3
     ·subst h3;simp at hR;simp[AD,AB,AA 322 12,AW 322,Kg,hR]
     ·simp[h3,AD,AA 322 11];by_cases h6:op=6
      ·subst h6;simp at hR;simp[AB,AA 322 12,AW 322,Kg,hR]
      ·simp[h3,h6]at hR;simp[h6,AB,AA 322 13];by_cases h4:op=4<;>by_cases h5:op=5<;>simp[h4,h5]at hR<;>simp[h4,h5,AW 322,hR]
def EC (f:F):Bool:=f.nodes.all Az
theorem MD (op n:Int) (ins:List Ivl) (kids:List F):EC (.mk op n ins kids)=(Az (.mk op n ins kids)&&kids.all EC):=by
 unfold EC;rw[F.nodes_eq,qU,List.all_flatMap]
theorem fx:∀f:F,f.ok→PX 287 [f.V] [.bool (EC f)]:=by
 refine F.ind λop n ins kids ih hok=>?_;refine BJ 287 ?_;obtain⟨R,hR⟩:∃R,EC (.mk op n ins kids)=R:=⟨_,rfl⟩;rw[hR];rw[MD]at hR;have hsz:=hok.2;rw[F.size_eq]at hsz;have hkl:=F.kids_len kids;have hp:=(fF _ (F.ok1_self hok)).fsp;generalize Az (.mk op n ins kids)=fm at*;simp only[Zw,Ai 287,AA 287 0,AA 287 1,AX];simp[F.V_eq]at hp ⊢;refine⟨_,_,hp _,?_⟩;cases fm with
 |false=>simp at hR;simp[AB,AA 287 2,AW 287,hR]
 |true=>
  simp only[pB]at hR;simp[AD,AA 287 3];refine Al kids.length (λk=>⟨[(1,.ref 0 0),(3,.v (.int .i64 k))],[.cells (F.mk op n ins kids).cells]⟩) (λk=>∀x∈kids.take k,EC x=true) (by simp[F.cells,F.op,F.n,F.ins,F.kids]) (by simp) ?_;intro k hk hI;simp only[Zw,A8 287 0,AA 287 4,F.cells,F.op,F.n,F.ins,F.kids];simp;by_cases h1:k <kids.length
  ·obtain⟨x,hx⟩:∃x,kids[k]?=some x:=⟨_,oI h1⟩;have hxm:=oK hx;have hw:=Bb k;have p1:=(ih x hxm (F.ok_kid hok hxm)).fsp;rw[if_pos (by omega),AD];simp only[AA 287 6];cases hwx:EC x with
   |false=>
    have:kids.all EC=false:=by rw[List.all_eq_false];exact⟨x,hxm,by simp[hwx]⟩
    rw[this]at hR;obtain⟨xo,xn,xi,xk⟩:=x;simp[F.V_eq,hwx]at p1;simp[hx,F.V_eq];refine⟨_,_,p1 _,?_⟩;simp[AB,AA 287 7,AW 287,hR]
   |true=>
    have ht:∀y∈kids.take (k+1),EC y=true:=by
     rw[oW,hx];intro y hy;simp at hy;rcases hy with hy|rfl
     ·exact hI y hy
     ·exact hwx
    obtain⟨xo,xn,xi,xk⟩:=x;simp[F.V_eq,hwx]at p1;simp[hx,F.V_eq];refine⟨_,_,p1 _,?_⟩;simp[AD,AA 287 5,hw,h1];exact ht
  ·have hk2:k=kids.length:=by omega
   subst hk2;rw[if_neg (by omega),AJ];have:kids.all EC=true:=by rw[oY];simpa using hI
   rw[this]at hR;simp[AB,AA 287 8,AW 287,hR]
theorem Ur (f:F) (hok:f.ok):PX 214 [f.V] [.int .i64 (BR f)]:=by
 refine BJ 214 ?_;obtain⟨R,hR⟩:∃R,BR f=R:=⟨_,rfl⟩;rw[hR];unfold BR at hR;have e:f.nodes.all Az=EC f:=rfl;rw[e]at hR;have h1:=(fz f hok).fsp;have h2:=(fy f hok).fsp;have h3:=(fx f hok).fsp;obtain⟨op,n,ins,kids⟩:=f;simp only[Ai 214,AE,AF,AK,AA 214 0,AA 214 1,AX];simp[F.V_eq]at h1 h2 h3 ⊢;refine⟨_,_,h1 _,?_⟩;generalize F.size (.mk op n ins kids)=sz at*;generalize F.depth (.mk op n ins kids)=dp at*;by_cases b1:96 <sz
 ·have b1':96 <(sz:Int):=by omega
  simp[b1]at hR;simp[b1',AB,AA 214 2,AW 214,hR]
 ·have b1':¬96 <(sz:Int):=by omega
  simp[b1'];refine⟨_,_,h2 _,?_⟩;by_cases b2:8 <dp
  ·have b2':8 <(dp:Int):=by omega
   simp[b2]at hR;simp[b2',AB,AA 214 2,AW 214,hR]
  ·have b2':¬8 <(dp:Int):=by omega
   simp[b1,b2]at hR;simp[b2',AD,AA 214 3];refine⟨_,_,h3 _,?_⟩;cases hw:EC (.mk op n ins kids)with
   |false=>simp[hw]at hR;simp[AB,AA 214 4,AW 214,hR]
   |true=>simp[hw]at hR;simp[AB,AA 214 5,AW 214,hR]
section
def IdxR (P:Program) (GL:Aa) (fid:Nat) (caps:List D):List V→List Row→Option Nat→List Row→Prop
 |[],h,r,h'=>r=none∧h'=h
 |x::xs,h,r,h'=>∃b h1,FSp P GL fid (.v x::caps) h [.v (.bool b)] h1∧if b then r=some 0∧h'=h1 else ∃r',IdxR P GL fid caps xs h1 r' h'∧r=r'.map (· +1)
def DX:Option Nat→Int
 |none=> -1
 |some k=>k
variable {xs:List V}
theorem IdxR.pure {P:Program} {GL:Aa} {fid:Nat} {caps:List D} {p:V→Bool} (hp:∀x∈xs,∀h,FSp P GL fid (.v x::caps) h [.v (.bool (p x))] h) (h:List Row):IdxR P GL fid caps xs h (xs.findIdx? p) h:=by
 induction xs with
 |nil=>exact⟨rfl,rfl⟩
 |cons x xs ih=>
  refine⟨p x,h,hp x (by simp) h,?_⟩;cases hx:p x with
  |true=>simp[qE,hx]
  |false=>
   simp only[oa,if_false];exact⟨_,ih λy hy=>hp y (by simp[hy]),by simp[qE,hx]⟩
theorem Cl {α:Type} (p:α→Bool) (xs:List α):(xs.findIdx? p).isSome=xs.any p:=by
 induction xs with
 |nil=>rfl
 |cons x xs ih=>
  cases hx:p x with
  |true=>simp[qE,hx]
  |false=>simp only[qE,hx,List.any_cons,Bool.false_or,oa,if_false,Option.isSome_map];exact ih
theorem Qj (r:Option Nat):(0≤DX r)↔r.isSome=true:=by
 cases r with
 |none=>simp[DX]
 |some k=>simp[DX]
structure FV (fd:D) (fid:Nat) (caps:List D):Prop where
 cp:fd.copy=fd
 fn:DS fd=some (fid,caps)
 nm:fd.norm=fd
 ny:∀r,fd≠ .yld r
 nt:∀a b,fd≠ .meth a b
theorem FV.v (fid:Nat) (vs:List V):FV (.v (.func fid vs)) fid (vs.map .v):=⟨rfl,rfl,rfl,(λ_ h=>by cases h),(λ_ _ h=>by cases h)⟩
theorem FV.r (fid r o:Nat) (caps:List D):FV (.func fid (.ref r o::caps)) fid (.ref r o::caps):=by
 have e:D.norm (.func fid (.ref r o::caps))= .func fid (.ref r o::caps):=by simp[D.norm,D.vs?,D.v?]
 exact⟨rfl,by unfold DS;rw[e],e,(λ_ h=>by cases h),(λ_ _ h=>by cases h)⟩
def mE (s:Nat):Bool→V→Prop
 |true,x=>∃cs,x= .agg cs∧cs.length=s
 |false,x=>s=1∧∃n,x= .int .i64 n
theorem nX (s:Nat) (g:Bool) (fd:D) (fid:Nat) (caps:List D) (hf:FV fd fid caps) (all:List V) (m:Nat) (hm2:all.length=m) (hlen:m <2^40)
  (Q:AExit→St→Prop):∀(xs:List V) (k:Nat) (h:List Row) (r:Option Nat) (h':List Row),all.drop k=xs→k≤m→(∀x∈xs,mE s g x)→IdxR Tryz.prog Ah fid caps xs h r h'→
  (r=none→∀e,AG e 0= .v (.list all)→Q (.exit 0) ⟨e,h'⟩)→(∀j,r=some j→∀e,AG e 4= .v (.int .i64 ((k+j:Nat):Int))→Q .ret ⟨e,h'⟩)→
  awp Tryz.prog Ah (.loop (Ri s g)) Q ⟨[(0,.v (.list all)),(1,fd),(7,.v (.int .i64 m)),(8,.v (.int .i64 k))],h⟩:=by
 have hfn:=hf.nm;have hcp:=hf.cp;have hcp2:=hf.cp;simp only[D.copy]at hcp2;intro xs;induction xs with
 |nil=>
  rintro k h r h' hd hk hc ⟨rfl,rfl⟩ hn hs;have h0:m≤k:=by rw[←hm2];exact sV.1 hd
  refine As ?_;simp only[Ri,AE,AF,AM,AK,Vd];have h2:¬(k:Int) <m:=by omega
  simp[h2,AJ];exact hn rfl _ rfl
 |cons x xs ih=>
  rintro k h r h' hd hk hc ⟨b,h1,hb,hr⟩ hn hs;have hx:all[k]?=some x:=by have:=congrArg (·[0]?) hd;simpa using this
  have hkl:k <m:=by rw[←hm2];exact(oM.1 hx).1
  have hd':all.drop (k+1)=xs:=by have:=congrArg (List.drop 1) hd;simpa using this
  have hw:IntKind.i64.wrap ((k:Int)+1)=k+1:=AL;have hkl':(k:Int) <m:=by omega
  have hcx:=hc x (by simp);have step:awp Tryz.prog Ah (Ri s g) (λe s'=>match e with| .normal=>b=false∧s'=⟨[(0,.v (.list all)),(1,fd),(7,.v (.int .i64 m)),(8,.v (.int .i64 (k+1:Nat)))],h1⟩| .ret=>b=true∧AG s'.e 4= .v (.int .i64 k)∧s'.h=h1| .exit _=>False) ⟨[(0,.v (.list all)),(1,fd),(7,.v (.int .i64 m)),(8,.v (.int .i64 k))],h⟩:=by
   cases g with
   |true=>
    obtain⟨cs,rfl,hcs⟩:=hcx;simp only[Ri,AE,AF,AM,AK,Vd];simp[hkl',AD,Ye,Yd,hx,hcp2,-BX,hcs];have hcall:∀(K:St→Prop) (e:CB),AG e 11=fd→AG e 15= .v (.agg cs)→K ⟨Bu e (some 16) (.v (.bool b)),h1⟩→BX Tryz.prog Ah (some 16) (.t 11 false) [.t 15 false] K ⟨e,h⟩:=by
     intro K e e1 e2 hK;unfold BX;have e3:(Opd.t 11 false).ev e=fd:=by simp only[Opd.ev,oa,if_false,e1,hcp]
     rw[e3];split
     ·rename_i q;exact absurd rfl (hf.ny _)
     ·rename_i q;exact absurd rfl (hf.nt _ _)
     ·rw[hf.fn];refine⟨[.v (.bool b)],h1,?_,hK⟩;simpa[e2]using hb
    refine hcall _ _ ?_ ?_ ?_
    ·simp
    ·simp[o6 (Nat.le_of_eq hcs)]
    cases b with
    |false=>simp[Yb,hw]
    |true=>simp[AB,Yc]
   |false=>
    obtain⟨rfl,y,rfl⟩:=hcx;simp only[Ri,AE,AF,AM,AK,Vd];simp[hkl',AD,Ye,Yd,hx,hcp2,-BX];have hcall:∀(K:St→Prop) (e:CB),AG e 11=fd→AG e 15= .v (.int .i64 y)→K ⟨Bu e (some 16) (.v (.bool b)),h1⟩→BX Tryz.prog Ah (some 16) (.t 11 false) [.t 15 false] K ⟨e,h⟩:=by
     intro K e e1 e2 hK;unfold BX;have e3:(Opd.t 11 false).ev e=fd:=by simp only[Opd.ev,oa,if_false,e1,hcp]
     rw[e3];split
     ·rename_i q;exact absurd rfl (hf.ny _)
     ·rename_i q;exact absurd rfl (hf.nt _ _)
     ·rw[hf.fn];refine⟨[.v (.bool b)],h1,?_,hK⟩;simpa[e2]using hb
    refine hcall _ _ ?_ ?_ ?_
    ·simp
    ·simp
    cases b with
    |false=>simp[Yb,hw]
    |true=>simp[AB,Yc]
  cases b with
  |false=>
   obtain⟨r',hr1,rfl⟩:=hr;refine Bl (Ad _ ?_ step) (ih (k+1) h1 r' h' hd' (by omega) (λy hy=>hc y (by simp[hy])) hr1 (λe=>hn (by rw[e];rfl)) ?_)
   ·intro e s' h;cases e with
    |normal=>exact h.2
    |exit i=>exact h.elim
    |ret=>cases h.1
   ·intro j e e1 e2;refine hs (j+1) (by rw[e];rfl) e1 ?_;rw[e2];congr 3;omega
  |true=>
   obtain⟨rfl,rfl⟩:=hr;refine As (Ad _ ?_ step);intro e s' h;cases e with
   |normal=>cases h.1
   |exit i=>exact h.elim
   |ret=>obtain⟨_,h2,h3⟩:=h;have:=hs 0 rfl s'.e h2;rw[←h3]at this;exact this
variable {h h':List Row} {n:Nat}
theorem pI {s:Nat} {g:Bool} (hk:CL Tryz.prog Ah n 2 (cI s g) L5=true) (fd:D) (fid:Nat) (caps:List D) (hf:FV fd fid caps) (xs:List V) (hlen:xs.length <2^40) (hc:∀x∈xs,mE s g x) {r:Option Nat} (hr:IdxR Tryz.prog Ah fid caps xs h r h'):
  FX n [.v (.list xs),fd] h [.v (.int .i64 (DX r))] h':=by
 refine IN hk rfl ?_;have hcp:=hf.cp;simp only[D.copy]at hcp;simp only[cI,AE,AF,AM,cv,cu,AQ];simp;refine nX s g fd fid caps hf xs xs.length rfl hlen _ xs 0 h r h' rfl (pg _) hc hr ?_ ?_
 ·rintro rfl e he;simp[AB,ct,L5,DX]
 ·rintro j rfl e he;simp at he;simp[he,L5,DX]
variable {f:Nat}
theorem pJ (hk:CL Tryz.prog Ah n 2 (cJ f) L5=true) (fd:D) (fid:Nat) (caps:List D) (hf:FV fd fid caps) (xs:List V) {r:Option Nat} (hp:FX f [.v (.list xs),fd] h [.v (.int .i64 (DX r))] h'):
  FX n [.v (.list xs),fd] h [.v (.bool r.isSome)] h':=by
 refine IN hk rfl ?_;have hcp:=hf.cp;simp only[D.copy]at hcp;have hnm:=hf.nm;have hge:=Qj r;simp only[cJ,AE,AF,cr,cq,AQ];simp[hcp,-D.norm];rw[hnm];refine⟨_,_,hp,?_⟩;simp[AB,L5,hge]
theorem ge (fd:D) (fid:Nat) (caps:List D) (hf:FV fd fid caps) (xs:List V) (hlen:xs.length <2^40) (hc:∀x∈xs,∃cs,x= .agg cs∧cs.length=4) {r:Option Nat} (hr:IdxR Tryz.prog Ah fid caps xs h r h'):
  FX 251 [.v (.list xs),fd] h [.v (.int .i64 (DX r))] h':=pI ku fd fid caps hf xs hlen hc hr
theorem gZ (fd:D) (fid:Nat) (caps:List D) (hf:FV fd fid caps) (xs:List V) (hlen:xs.length <2^40) (hc:∀x∈xs,∃n,x= .int .i64 n) {r:Option Nat} (hr:IdxR Tryz.prog Ah fid caps xs h r h'):
  FX 252 [.v (.list xs),fd] h [.v (.int .i64 (DX r))] h':=pI kr fd fid caps hf xs hlen (λx hx=>⟨rfl,hc x hx⟩) hr
theorem gY (fd:D) (fid:Nat) (caps:List D) (hf:FV fd fid caps) (xs:List V) (hlen:xs.length <2^40) (hc:∀x∈xs,∃cs,x= .agg cs∧cs.length=3) {r:Option Nat} (hr:IdxR Tryz.prog Ah fid caps xs h r h'):
  FX 253 [.v (.list xs),fd] h [.v (.int .i64 (DX r))] h':=pI km fd fid caps hf xs hlen hc hr
theorem gX (fd:D) (fid:Nat) (caps:List D) (hf:FV fd fid caps) (xs:List V) (hlen:xs.length <2^40) (hc:∀x∈xs,∃cs,x= .agg cs∧cs.length=3) {r:Option Nat} (hr:IdxR Tryz.prog Ah fid caps xs h r h'):
  FX 254 [.v (.list xs),fd] h [.v (.int .i64 (DX r))] h':=pI kj fd fid caps hf xs hlen hc hr
theorem gJ (fd:D) (fid:Nat) (caps:List D) (hf:FV fd fid caps) (xs:List V) (hlen:xs.length <2^40) (hc:∀x∈xs,∃cs,x= .agg cs∧cs.length=3) {r:Option Nat} (hr:IdxR Tryz.prog Ah fid caps xs h r h'):
  FX 272 [.v (.list xs),fd] h [.v (.int .i64 (DX r))] h':=pI kg fd fid caps hf xs hlen hc hr
theorem gH (fd:D) (fid:Nat) (caps:List D) (hf:FV fd fid caps) (xs:List V) (hlen:xs.length <2^40) (hc:∀x∈xs,∃cs,x= .agg cs∧cs.length=8) {r:Option Nat} (hr:IdxR Tryz.prog Ah fid caps xs h r h'):
  FX 275 [.v (.list xs),fd] h [.v (.int .i64 (DX r))] h':=pI kf fd fid caps hf xs hlen hc hr
theorem fR (fd:D) (fid:Nat) (caps:List D) (hf:FV fd fid caps) (xs:List V) (hlen:xs.length <2^40) (hc:∀x∈xs,∃cs,x= .agg cs∧cs.length=8) {r:Option Nat} (hr:IdxR Tryz.prog Ah fid caps xs h r h'):
  FX 307 [.v (.list xs),fd] h [.v (.int .i64 (DX r))] h':=pI ka fd fid caps hf xs hlen hc hr
theorem fH (fd:D) (fid:Nat) (caps:List D) (hf:FV fd fid caps) (xs:List V) (hlen:xs.length <2^40) (hc:∀x∈xs,∃cs,x= .agg cs∧cs.length=4) {r:Option Nat} (hr:IdxR Tryz.prog Ah fid caps xs h r h'):
  FX 318 [.v (.list xs),fd] h [.v (.int .i64 (DX r))] h':=pI kZ fd fid caps hf xs hlen hc hr
theorem fE (fd:D) (fid:Nat) (caps:List D) (hf:FV fd fid caps) (xs:List V) (hlen:xs.length <2^40) (hc:∀x∈xs,∃cs,x= .agg cs∧cs.length=4) {r:Option Nat} (hr:IdxR Tryz.prog Ah fid caps xs h r h'):
  FX 323 [.v (.list xs),fd] h [.v (.int .i64 (DX r))] h':=pI kY fd fid caps hf xs hlen hc hr
theorem Uu (fd:D) (fid:Nat) (caps:List D) (hf:FV fd fid caps) (xs:List V) (hlen:xs.length <2^40) (hc:∀x∈xs,∃cs,x= .agg cs∧cs.length=4) {r:Option Nat} (hr:IdxR Tryz.prog Ah fid caps xs h r h'):
  FX 149 [.v (.list xs),fd] h [.v (.bool r.isSome)] h':=pJ lF fd fid caps hf xs (ge fd fid caps hf xs hlen hc hr)
theorem Ut (fd:D) (fid:Nat) (caps:List D) (hf:FV fd fid caps) (xs:List V) (hlen:xs.length <2^40) (hc:∀x∈xs,∃n,x= .int .i64 n) {r:Option Nat} (hr:IdxR Tryz.prog Ah fid caps xs h r h'):
  FX 151 [.v (.list xs),fd] h [.v (.bool r.isSome)] h':=pJ lE fd fid caps hf xs (gZ fd fid caps hf xs hlen hc hr)
theorem XT (fd:D) (fid:Nat) (caps:List D) (hf:FV fd fid caps) (xs:List V) (hlen:xs.length <2^40) (hc:∀x∈xs,∃cs,x= .agg cs∧cs.length=3) {r:Option Nat} (hr:IdxR Tryz.prog Ah fid caps xs h r h'):
  FX 153 [.v (.list xs),fd] h [.v (.bool r.isSome)] h':=pJ lD fd fid caps hf xs (gY fd fid caps hf xs hlen hc hr)
theorem Z7 (fd:D) (fid:Nat) (caps:List D) (hf:FV fd fid caps) (xs:List V) (hlen:xs.length <2^40) (hc:∀x∈xs,∃cs,x= .agg cs∧cs.length=3) {r:Option Nat} (hr:IdxR Tryz.prog Ah fid caps xs h r h'):
  FX 183 [.v (.list xs),fd] h [.v (.bool r.isSome)] h':=pJ kw fd fid caps hf xs (gJ fd fid caps hf xs hlen hc hr)
theorem gV (fd:D) (fid:Nat) (caps:List D) (hf:FV fd fid caps) (xs:List V) (hlen:xs.length <2^40) (hc:∀x∈xs,∃cs,x= .agg cs∧cs.length=8) {r:Option Nat} (hr:IdxR Tryz.prog Ah fid caps xs h r h'):
  FX 256 [.v (.list xs),fd] h [.v (.bool r.isSome)] h':=pJ kh fd fid caps hf xs (fR fd fid caps hf xs hlen hc hr)
theorem Zl (fd:D) (fid:Nat) (caps:List D) (hf:FV fd fid caps) (xs:List V) (hlen:xs.length <2^40) (hc:∀x∈xs,∃cs,x= .agg cs∧cs.length=4) {r:Option Nat} (hr:IdxR Tryz.prog Ah fid caps xs h r h'):
  FX 277 [.v (.list xs),fd] h [.v (.bool r.isSome)] h':=pJ ke fd fid caps hf xs (fH fd fid caps hf xs hlen hc hr)
theorem fc (fd:D) (fid:Nat) (caps:List D) (hf:FV fd fid caps) (xs:List V) (hlen:xs.length <2^40) (hc:∀x∈xs,∃cs,x= .agg cs∧cs.length=4) {r:Option Nat} (hr:IdxR Tryz.prog Ah fid caps xs h r h'):
  FX 293 [.v (.list xs),fd] h [.v (.bool r.isSome)] h':=pJ kb fd fid caps hf xs (fE fd fid caps hf xs hlen hc hr)
end
theorem ba (f:F) (Q:AExit→St→Prop) (hQ:Q .normal ⟨[(1,.ref 0 0),(27,.v (.bool (KS f)))],[.cells f.cells]⟩):
  awp Tryz.prog Ah (.reg (oG 144 1) [1,27]) Q ⟨[(1,.ref 0 0)],[.cells f.cells]⟩:=by
 obtain⟨B,hB⟩:∃B,KS f=B:=⟨_,rfl⟩;rw[hB]at hQ;obtain⟨op,n,ins,kids⟩:=f;simp only[F.cells,KS,F.op,F.n,F.ins,F.kids]at*;rw[AF];simp only[AA 144 1];by_cases h2:op=2
 ·subst h2;simp at hB;subst hB;simpa using hQ
 ·by_cases hl:0 <ins.length
  ·have hl':0 <(ins.length:Int):=by omega
   simp[h2,hl]at hB;subst hB;simp[h2,hl];exact hQ
  ·have hl':¬0 <(ins.length:Int):=by omega
   have hl2:ins=[]:=by cases ins<;>simp_all
   subst hl2;by_cases h1:op=1
   ·subst h1;simp at hB;subst hB;simpa using hQ
   ·by_cases hn:n=0
    ·subst hn;simp at hB;subst hB;simp[h2,h1];exact hQ
    ·have hn2:(n != 0)=true:=by simpa using hn
     simp[h2,h1,hn]at hB;subst hB;simp[h2,h1,hn2];exact hQ
theorem jU (f:F) (hf:f.ok1):PX 144 [f.V] [.bool (Az f)]:=by
 refine BJ 144 ?_;obtain⟨R,hR⟩:∃R,Az f=R:=⟨_,rfl⟩;rw[hR];have hp:=(gm f.ins hf.2.2.1 hf.2.2.2).fsp;rw[Ai 144];rw[AE,AF];obtain⟨op,n,ins,kids⟩:=f;simp only[F.V_eq,F.ins]at*;simp[AA 144 0,AX];rw[AE,AE];have ha:=ba ⟨op,n,ins,kids⟩;simp only[F.cells,F.op,F.n,F.ins,F.kids]at ha;refine ha _ ?_;simp[AK];cases ho:KS ⟨op,n,ins,kids⟩with
 |true=>
  rw[KA ho]at hR;simp[AE,AF,AB,AA 144 2,AW 144,hR]
 |false=>
  rw[I5 ho]at hR;simp only[F.op,F.n,F.ins,F.kids]at hR;simp only[AD,if_neg sK];simp only[Zw,AA 144 3,AA 144 4,AA 144 5];simp;by_cases h0:op=0
  ·subst h0;simp at hR;simp[AB,AA 144 6,AW 144,QY,hR]
  ·simp only[h0,if_false]at hR;simp[h0,AA 144 7];by_cases h1:op=1
   ·subst h1;simp at hR;simp[AB,AA 144 8];by_cases hk:kids.length=0
    ·have hk2:kids=[]:=sL.1 hk;subst hk2;by_cases b1:0≤n<;>by_cases b2:n <64<;>simp[b1,b2]at hR<;>simp[b1,b2,AW 144,hR]
    ·have hk2:¬kids=[]:=λh=>hk (by rw[h];rfl);simp[hk2]at hR;simp[hk2,AW 144,hR]
   ·simp only[h1,if_false]at hR;simp[h1,AA 144 9];by_cases h2:op=2
    ·subst h2;simp at hR;simp[AB,AA 144 10];by_cases hk:kids.length=0
     ·have hk2:kids=[]:=sL.1 hk;subst hk2;by_cases b1:0≤n<;>by_cases b2:n <32<;>simp[b1,b2]at hR<;>simp[b1,b2,AW 144,hR]
      refine⟨_,_,hp _,?_⟩;simp;rw[←hR,pt];simp
     ·have hk2:¬kids=[]:=λh=>hk (by rw[h];rfl);simp[hk2]at hR;simp[hk2,AW 144,hR]
    ·simp only[h2,if_false]at hR;simp[h2,AA 144 11];by_cases h3:op=3
     ·subst h3;simp at hR;simp[AD,AB,AA 144 13,AW 144,Kg,hR]
     ·simp[h3,AD,AA 144 12];by_cases h6:op=6
      ·subst h6;simp at hR;simp[AB,AA 144 13,AW 144,Kg,hR]
      ·simp[h3,h6]at hR;simp[h6,AB,AA 144 14];by_cases h4:op=4<;>by_cases h5:op=5<;>simp[h4,h5]at hR<;>simp[h4,h5,AW 144,hR]
theorem jV:∀f:F,f.ok→PX 143 [f.V] [.int .i64 f.depth]:=by
 refine F.ind λop n ins kids ih hok=>?_;refine BJ 143 ?_;have hsz:=hok.2;rw[F.size_eq]at hsz;have hkl:=F.kids_len kids;have hdl:=Mf kids;simp only[Ai 143,AE,AF,AM,AA 143 0,AA 143 1,AA 143 2,AX];simp[F.V_eq];refine AY kids.length (λk s=>s.e=[(3,.v (.int .i64 (F.depths (kids.take k)))),(7,.v (.list (kids.map F.V))),(8,.v (.int .i64 kids.length)),(9,.v (.int .i64 k))]) (by simp[F.depths]) ?_;rintro k ⟨se,sh⟩ hk he;simp only at he;subst he;simp only[Zw,A8 143 0,AA 143 3];simp;by_cases h1:k <kids.length
 ·obtain⟨x,hx⟩:∃x,kids[k]?=some x:=⟨_,oI h1⟩;have hxm:=oK hx;have hw:=Bb k;have p1:=(ih x hxm (F.ok_kid hok hxm)).fsp;have ht:=KE hx;rw[if_pos (by omega),AD];simp only[AA 143 4,AA 143 5,AA 143 6];obtain⟨xo,xn,xi,xk⟩:=x;simp[F.V_eq]at p1;simp[hx,F.V_eq,AO];refine⟨_,_,p1 _,?_⟩;simp[hw,h1,ht];split<;>omega
 ·have hk2:k=kids.length:=by omega
  subst hk2;rw[if_neg (by omega),AJ];have hw2:IntKind.i64.wrap ((F.depths kids:Int)+1)=F.depths kids+1:=AL;simp[AB,AA 143 7,AW 143,hw2,F.depth]
def RunY (P:Program) (GL:Aa) (r:Nat):List V→List Row→Bool→List Row→Prop
 |[],X,b,X'=>b=true∧X'=X
 |n::ns,X,b,X'=>∃b1 X1,X1.length=X.length∧(∀J,∃J2,Nk P GL r [.v n] (X++J) b1 (X1++(J++J2)))∧if b1 then RunY P GL r ns X1 b X' else b=false∧X'=X1
section
variable {P:Program} {GL:Aa} {r:Nat}
theorem RunY.len:∀ {ns:List V} {X:List Row} {b:Bool} {X':List Row},RunY P GL r ns X b X'→X'.length=X.length
 |[],X,b,X',h=>by rw[h.2]
 |n::ns,X,b,X',h=>by
  obtain⟨b1,X1,h1,_,h2⟩:=h;cases b1 with
  |true=>rw[RunY.len h2,h1]
  |false=>rw[h2.2,h1]
theorem RunY.app:∀ {xs ys:List V} {X:List Row} {b:Bool} {X':List Row},RunY P GL r (xs++ys) X b X'→∃b1 X1,RunY P GL r xs X b1 X1∧if b1 then RunY P GL r ys X1 b X' else b=false∧X'=X1
 |[],ys,X,b,X',h=>⟨true,X,⟨rfl,rfl⟩,h⟩
 |x::xs,ys,X,b,X',h=>by
  obtain⟨b1,X1,h1,h2,h3⟩:=h;cases b1 with
  |true=>
   obtain⟨b2,X2,h4,h5⟩:=RunY.app (xs:=xs) h3;exact⟨b2,X2,⟨true,X1,h1,h2,h4⟩,h5⟩
  |false=>exact⟨false,X1,⟨false,X1,h1,h2,rfl,rfl⟩,h3⟩
end
theorem jP (x:F) (c:Nat) (h:List Row) (a:Nat) (hc:h[c]?=some (.cells [.func 148 [.ref a 0,.ref c 0]])) (b:Bool) (h':List Row)
  (hp:FX 148 [.v x.V,.ref a 0,.ref c 0] (h++[.cells x.cells]) [.v (.bool b)] h'):FX 150 [.v x.V,.ref c 0] h [.v (.bool (!b))] h':=by
 refine Dh 150 ?_;have hc2:=AV [.cells x.cells] hc;obtain⟨xo,xn,xi,xk⟩:=x;simp only[F.cells,F.op,F.n,F.ins,F.kids,F.V_eq]at*;simp only[Ai 150,AE,AF,AA 150 0,AA 150 1,AQ];simp[hc2,D.vs?,D.v?];refine⟨_,_,hp,?_⟩;simp[AB,AW 150]
theorem kQ (r:Nat) (a c:Nat) (kids:List F) (hk:∀k∈kids,∀X b X' J i j,a=X.length+i→c=X.length+j→RunY Tryz.prog Ah r (k.nodes.map F.V) X b X'→J[i]?=some (.cells [.yld r])→J[j]?=some (.cells [.func 148 [.ref a 0,.ref c 0]])→
   ∃J',FX 148 [.v k.V,.ref a 0,.ref c 0] (X++J) [.v (.bool b)] (X'++(J++J'))):
  ∀(X:List Row) (b:Bool) (X':List Row) (J:List Row) (i j:Nat),a=X.length+i→c=X.length+j→RunY Tryz.prog Ah r ((kids.flatMap F.nodes).map F.V) X b X'→J[i]?=some (.cells [.yld r])→J[j]?=some (.cells [.func 148 [.ref a 0,.ref c 0]])→
   ∃J' q,IdxR Tryz.prog Ah 150 [.ref c 0] (kids.map F.V) (X++J) q (X'++(J++J'))∧q.isSome= !b:=by
 induction kids with
 |nil=>
  rintro X b X' J i j ha hc ⟨rfl,rfl⟩ hi hj;exact⟨[],none,⟨rfl,by simp⟩,rfl⟩
 |cons k ks ih=>
  intro X b X' J i j ha hc hr hi hj;rw[oZ,oh]at hr;obtain⟨b1,X1,h1,h2⟩:=hr.app;have hl:=h1.len;obtain⟨J1,hp⟩:=hk k (by simp) X b1 X1 (J++[.cells k.cells]) i j ha hc h1 (AV _ hi) (AV _ hj);have hcc:(X++J)[c]?=some (.cells [.func 148 [.ref a 0,.ref c 0]]):=by rw[BI X J c j hc];exact hj
  rw[←oR]at hp;have hq:=jP k c (X++J) a hcc b1 _ hp;cases b1 with
  |true=>
   simp only[if_true]at h2;obtain⟨J2,q,h3,h4⟩:=ih (λx hx=>hk x (by simp[hx])) X1 b X' (J++[.cells k.cells]++J1) i j (by rw[hl];exact ha) (by rw[hl];exact hc) h2 (AV _ (AV _ hi)) (AV _ (AV _ hj));refine⟨[.cells k.cells]++J1++J2,q.map (· +1),⟨false,_,hq,?_⟩,by cases q<;>simpa using h4⟩
   simp only[oa,if_false];refine⟨q,?_,rfl⟩;simpa[oR]using h3
  |false=>
   simp only[oa,if_false]at h2;obtain⟨rfl,rfl⟩:=h2;refine⟨[.cells k.cells]++J1,some 0,⟨true,_,hq,?_⟩,rfl⟩;simp[oR]
theorem jR (r:Nat) (a c:Nat):∀f:F,f.ok→∀X b X' J i j,a=X.length+i→c=X.length+j→RunY Tryz.prog Ah r (f.nodes.map F.V) X b X'→J[i]?=some (.cells [.yld r])→J[j]?=some (.cells [.func 148 [.ref a 0,.ref c 0]])→
   ∃J',FX 148 [.v f.V,.ref a 0,.ref c 0] (X++J) [.v (.bool b)] (X'++(J++J')):=by
 refine F.ind λop n ins kids ih hok=>?_;intro X b X' J i j ha hc hr hi hj;have hsz:=hok.2;rw[F.size_eq]at hsz;have hkl:=F.kids_len kids;rw[F.nodes_eq,oV]at hr;obtain⟨b1,X1,hl,hy,hr2⟩:=hr;obtain⟨J2,hy2⟩:=hy (J++[.cells (F.mk op n ins kids).cells]);have ga:(X++(J++[.cells (F.mk op n ins kids).cells]))[a]?=some (.cells [.yld r]):=by rw[BI X _ a i ha];exact AV _ hi
 have gc:(X++(J++[.cells (F.mk op n ins kids).cells]))[c]?=some (.cells [.func 148 [.ref a 0,.ref c 0]]):=by rw[BI X _ c j hc];exact AV _ hj
 have gf:(X++(J++[.cells (F.mk op n ins kids).cells]))[X.length+J.length]?=some (.cells (F.mk op n ins kids).cells):=by rw[BI X _ _ J.length rfl];simp
 have gf2:(X1++(J++[.cells (F.mk op n ins kids).cells]++J2))[X.length+J.length]?=some (.cells (F.mk op n ins kids).cells):=by rw[BI X1 _ _ J.length (by rw[hl])];simp
 have hkids:∀x∈kids.map F.V,∃cs,x=V.agg cs∧cs.length=4:=by
  intro x hx;obtain⟨k,_,rfl⟩:=oP.1 hx;obtain⟨ko,kn,ki,kk⟩:=k;exact⟨_,F.V_eq ..,rfl⟩
 have e0:X++J++[.cells (F.mk op n ins kids).cells]=X++(J++[.cells (F.mk op n ins kids).cells]):=oR ..;cases b1 with
 |false=>
  obtain⟨rfl,rfl⟩:=hr2;refine⟨[.cells (F.mk op n ins kids).cells]++J2,Dh 148 ?_⟩;simp only[F.cells,F.op,F.n,F.ins,F.kids,F.V_eq]at*;simp only[Ai 148,AE,AF,AA 148 0,AA 148 1,AQ];simp[-Bool.exists_bool];simp[ga,-Bool.exists_bool];refine⟨_,_,hy2,?_⟩;simp[AB,AW 148]
 |true=>
  simp only[if_true]at hr2;obtain⟨J3,q,hidx,hq⟩:=kQ r a c kids (λk hk=>ih k hk (F.ok_kid hok hk)) X1 b X' (J++[.cells (F.mk op n ins kids).cells]++J2) i j (by rw[hl];exact ha) (by rw[hl];exact hc) hr2 (AV _ (AV _ hi)) (AV _ (AV _ hj));have hp:=Uu (.func 150 [.ref c 0]) 150 [.ref c 0] (FV.r 150 c 0 []) (kids.map F.V) (by simp;omega) hkids hidx;refine⟨[.cells (F.mk op n ins kids).cells]++J2++J3,Dh 148 ?_⟩;simp only[F.cells,F.op,F.n,F.ins,F.kids,F.V_eq]at*;simp only[Ai 148,AE,AF,AA 148 0,AA 148 1,AQ];simp[-Bool.exists_bool];simp[ga,-Bool.exists_bool];refine⟨_,_,hy2,?_⟩;simp at gf2;simp[gf2,D.vs?,D.v?];simp at hp;rw[hq]at hp;refine⟨_,_,hp,?_⟩;simp[AB,AW 148]
end Go.Va
