/- Part 6 of the proof that ExtractBetter returns true for every input and leaves its arguments alone. Condition: the variable that the row lists holds what the text of the program lays. Texts joined here: VwR VwP VwS VwT VwU VwFa VwFb VwFc VwFd VwFe VaU VwV VwW VwX VwY VwZ VsD VwD VwDa VwDb VwDc VwDd VwCa VwCb VwCe VwCf VwCg VwCh VwCi VwCj VwCk VwDe VwFf. -/
import Derived.Test.YtopldfpkgbkomaaGreatDoorL02
import Derived.Test.YtopldfpkgbkomaaGreatDoorL03
import Derived.Test.YtopldfpkgbkomaaGreatDoorL05
set_option linter.all false
set_option maxRecDepth 100000
namespace Go.Va
open Go.Proofs
theorem Sc (n:Nat):((n:Int)==0)=(n==0):=by rw[AUt];simp
theorem JW (n:Nat):((n:Int)==1)=(n==1):=by rw[AUt];simp;omega
def JO (f:F):Bool:=decide ((f.op≠2∧0 <f.ins.length)∨(f.op≠2∧f.op≠1∧f.n≠0))
set_option maxHeartbeats 2000000 in
theorem AI4 (f:F) (Q:AExit→St→Prop) (hQ:Q .normal ⟨[(1,.ref 0 0),(26,.v (.bool (JO f)))],[.cells f.cells]⟩):
  awp Tryz.prog GLx (.reg QD [1,26]) Q ⟨[(1,.ref 0 0)],[.cells f.cells]⟩:=by
 obtain⟨B,hB⟩:∃B,JO f=B:=⟨_,rfl⟩;rw[hB]at hQ;obtain⟨op,n,ins,kids⟩:=f;simp only[F.cells,JO,F.op,F.n,F.ins,F.kids]at*;rw[AA];simp only[QD];by_cases h2:op=2
 ·subst h2;simp at hB;subst hB;simpa using hQ
 ·by_cases hl:0 <ins.length
  ·have hl':0 <(ins.length:Int):=by omega
   simp[h2,hl]at hB;subst hB;simp[h2,hl,hl'];exact hQ
  ·have hl':¬0 <(ins.length:Int):=by omega
   have hl2:ins=[]:=by cases ins<;>simp_all
   subst hl2;by_cases h1:op=1
   ·subst h1;simp at hB;subst hB;simpa using hQ
   ·by_cases hn:n=0
    ·subst hn;simp at hB;subst hB;simp[h2,h1];exact hQ
    ·have hn2:(n != 0)=true:=by simpa using hn
     simp[h2,h1,hn]at hB;subst hB;simp[h2,h1,hn2];exact hQ
theorem I5 {f:F} (h:JO f=true):Ax f=false:=by
 unfold Ax;unfold JO at h;rw[if_pos (of_decide_eq_true h)]
theorem Hl {f:F} (h:JO f=false):Ax f=if f.op=0 then f.kids.length==0
 else if f.op=1 then decide (f.kids.length=0∧0≤f.n∧f.n <64)
 else if f.op=2 then decide (f.kids.length=0∧0≤f.n∧f.n <32∧FY f.ins=0)
 else if f.op=3∨f.op=6 then f.kids.length==1
 else decide (f.op=4∨f.op=5):=by
 unfold Ax;unfold JO at h;rw[if_neg (of_decide_eq_false h)]
set_option maxHeartbeats 4000000 in
theorem APL (f:F) (hf:f.ok1):PX 322 [f.V] [.bool (Ax f)]:=by
 refine AK ARk rfl ?_;obtain⟨R,hR⟩:∃R,Ax f=R:=⟨_,rfl⟩;rw[hR];have hp:=(APF f.ins hf.2.2.1 hf.2.2.2).fsp;unfold AMh;rw[AB,AA];obtain⟨op,n,ins,kids⟩:=f;simp only[F.V_eq,F.op,F.n,F.ins,F.kids]at*;simp[bX,AY];rw[AB,AB];have ha:=AI4 ⟨op,n,ins,kids⟩;simp only[F.cells,F.op,F.n,F.ins,F.kids]at ha;refine ha _ ?_;simp[AE];cases ho:JO ⟨op,n,ins,kids⟩with
 |true=>
  rw[I5 ho]at hR;simp[AB,AA,AG,bW,Gm,hR]
 |false=>
  rw[Hl ho]at hR;simp only[F.op,F.n,F.ins,F.kids]at hR;simp only[AD,if_neg AWH];simp only[AB,AA,AF,AE,bV,bU];simp;by_cases h0:op=0
  ·subst h0;simp at hR;simp[AG,AB,AA,bT,Gm,Sc,hR]
  ·simp only[h0,if_false]at hR;simp[h0,AB,AA,AE,bS];by_cases h1:op=1
   ·subst h1;simp at hR;simp[AG,AB,AA,bR];by_cases hk:kids.length=0
    ·have hk2:kids=[]:=AWJ.1 hk;subst hk2;by_cases b1:0≤n<;>by_cases b2:n <64<;>simp[b1,b2]at hR<;>simp[b1,b2,Gm,hR]
    ·have hk2:¬kids=[]:=λh=>hk (by rw[h];rfl);simp[hk2]at hR;simp[hk,hk2,Gm,hR]
   ·simp only[h1,if_false]at hR;simp[h1,AB,AA,AE,bQ];by_cases h2:op=2
    ·subst h2;simp at hR;simp[AG,AB,AA,bP];by_cases hk:kids.length=0
     ·have hk2:kids=[]:=AWJ.1 hk;subst hk2;by_cases b1:0≤n<;>by_cases b2:n <32<;>simp[b1,b2]at hR<;>simp[b1,b2,Gm,hR]
      refine⟨_,_,hp _,?_⟩;simp;rw[←hR,AUt];simp
     ·have hk2:¬kids=[]:=λh=>hk (by rw[h];rfl);simp[hk2]at hR;simp[hk,hk2,Gm,hR]
    ·simp only[h2,if_false]at hR;simp[h2,AB,AA,AE,TP];by_cases h3:op=3
     ·subst h3;simp at hR;simp[AD,AG,AB,AA,MZ,Gm,JW,hR]
     ·simp[h3,AD,AA,TO];by_cases h6:op=6
      ·subst h6;simp at hR;simp[AD,AG,AB,AA,MZ,Gm,JW,hR]
      ·simp[h3,h6]at hR;simp[h6,AD,AA,AG,TN];by_cases h4:op=4<;>by_cases h5:op=5<;>simp[h4,h5]at hR<;>simp[h4,h5,Gm,hR]
def Dr (f:F):Bool:=f.nodes.all Ax
theorem U1 (op n:Int) (ins:List Ivl) (kids:List F):Dr (.mk op n ins kids)=(Ax (.mk op n ins kids)&&kids.all Dr):=by
 unfold Dr;rw[F.nodes_eq,AVS,List.all_flatMap]
theorem APb:∀f:F,f.ok→PX 287 [f.V] [.bool (Dr f)]:=by
 refine F.ind λop n ins kids ih hok=>?_;refine AK AR4 rfl ?_;obtain⟨R,hR⟩:∃R,Dr (.mk op n ins kids)=R:=⟨_,rfl⟩;rw[hR];rw[U1]at hR;have hsz:=hok.2;rw[F.size_eq]at hsz;have hkl:=F.kids_len kids;have hp:=(APL _ (F.ok1_self hok)).fsp;generalize Ax (.mk op n ins kids)=fm at*;simp only[AM0,AB,AA,AF,AE,dw,dv,AY];simp[F.V_eq]at hp ⊢;refine⟨_,_,hp _,?_⟩;cases fm with
 |false=>simp at hR;simp[AB,AA,AG,du,TZ,hR]
 |true=>
  simp only[AUS]at hR;simp[AD,AA,dt];refine BK kids.length (λk=>⟨[(1,.ref 0 0),(3,.v (.int .i64 k))],[.cells (F.mk op n ins kids).cells]⟩) (λk=>∀x∈kids.take k,Dr x=true) (by simp[F.cells,F.op,F.n,F.ins,F.kids]) (by simp) ?_;intro k hk hI;simp only[dx,AB,AA,AF,AE,dq,F.cells,F.op,F.n,F.ins,F.kids];simp;by_cases h1:k <kids.length
  ·obtain⟨x,hx⟩:∃x,kids[k]?=some x:=⟨_,ATo h1⟩;have hxm:=ATq hx;have hw:IntKind.i64.wrap ((k:Int)+1)=k+1:=AJ;have p1:=(ih x hxm (F.ok_kid hok hxm)).fsp;rw[if_pos (by omega),AD];simp only[AA,dl];cases hwx:Dr x with
   |false=>
    have:kids.all Dr=false:=by rw[List.all_eq_false];exact⟨x,hxm,by simp[hwx]⟩
    rw[this]at hR;obtain⟨xo,xn,xi,xk⟩:=x;simp[F.V_eq,hwx]at p1;simp[hx,F.V_eq];refine⟨_,_,p1 _,?_⟩;simp[AE,AB,AA,AG,dj,TZ,hR]
   |true=>
    have ht:∀y∈kids.take (k+1),Dr y=true:=by
     rw[AUE,hx];intro y hy;simp at hy;rcases hy with hy|rfl
     ·exact hI y hy
     ·exact hwx
    obtain⟨xo,xn,xi,xk⟩:=x;simp[F.V_eq,hwx]at p1;simp[hx,F.V_eq];refine⟨_,_,p1 _,?_⟩;simp[AE,AD,AA,dm,hw,h1];exact ht
  ·have hk2:k=kids.length:=by omega
   subst hk2;rw[if_neg (by omega),AM];have:kids.all Dr=true:=by rw[AT4];simpa using hI
   rw[this]at hR;simp[AA,AG,AB,di,TZ,hR]
theorem AQL (f:F) (hok:f.ok):PX 214 [f.V] [.int .i64 (BH f)]:=by
 refine AK ASh rfl ?_;obtain⟨R,hR⟩:∃R,BH f=R:=⟨_,rfl⟩;rw[hR];unfold BH at hR;have e:f.nodes.all Ax=Dr f:=rfl;rw[e]at hR;have h1:=(APd f hok).fsp;have h2:=(APc f hok).fsp;have h3:=(APb f hok).fsp;obtain⟨op,n,ins,kids⟩:=f;simp only[ANk,AB,AA,AF,AE,lz,lu,AY];simp[F.V_eq]at h1 h2 h3 ⊢;refine⟨_,_,h1 _,?_⟩;generalize F.size (.mk op n ins kids)=sz at*;generalize F.depth (.mk op n ins kids)=dp at*;by_cases b1:96 <sz
 ·have b1':96 <(sz:Int):=by omega
  simp[b1]at hR;simp[b1',AB,AA,AG,Q5,Oh,hR]
 ·have b1':¬96 <(sz:Int):=by omega
  simp[b1'];refine⟨_,_,h2 _,?_⟩;by_cases b2:8 <dp
  ·have b2':8 <(dp:Int):=by omega
   simp[b2]at hR;simp[b2',AB,AA,AG,Q5,Oh,hR]
  ·have b2':¬8 <(dp:Int):=by omega
   simp[b1,b2]at hR;simp[b2',AD,AA,lq];refine⟨_,_,h3 _,?_⟩;cases hw:Dr (.mk op n ins kids)with
   |false=>simp[hw]at hR;simp[AE,AB,AA,AG,lm,Oh,hR]
   |true=>simp[hw]at hR;simp[AE,AD,AB,AA,AG,lk,Oh,hR]
def IdxR (P:Program) (GL:AV) (fid:Nat) (caps:List D):List V→List Row→Option Nat→List Row→Prop
 |[],h,r,h'=>r=none∧h'=h
 |x::xs,h,r,h'=>∃b h1,FSp P GL fid (.v x::caps) h [.v (.bool b)] h1∧if b then r=some 0∧h'=h1 else ∃r',IdxR P GL fid caps xs h1 r' h'∧r=r'.map (· +1)
def CK:Option Nat→Int
 |none=> -1
 |some k=>k
theorem IdxR.pure {P:Program} {GL:AV} {fid:Nat} {caps:List D} {p:V→Bool} {xs:List V} (hp:∀x∈xs,∀h,FSp P GL fid (.v x::caps) h [.v (.bool (p x))] h) (h:List Row):IdxR P GL fid caps xs h (xs.findIdx? p) h:=by
 induction xs with
 |nil=>exact⟨rfl,rfl⟩
 |cons x xs ih=>
  refine⟨p x,h,hp x (by simp) h,?_⟩;cases hx:p x with
  |true=>simp[AUn,hx]
  |false=>
   simp only[ATx,if_false];exact⟨_,ih λy hy=>hp y (by simp[hy]),by simp[AUn,hx]⟩
theorem Cn {α:Type} (p:α→Bool) (xs:List α):(xs.findIdx? p).isSome=xs.any p:=by
 induction xs with
 |nil=>rfl
 |cons x xs ih=>
  cases hx:p x with
  |true=>simp[AUn,hx]
  |false=>simp only[AUn,hx,List.any_cons,Bool.false_or,ATx,if_false,Option.isSome_map];exact ih
theorem EY (r:Option Nat):(0≤CK r)↔r.isSome=true:=by
 cases r with
 |none=>simp[CK]
 |some k=>simp[CK]
structure FV (fd:D) (fid:Nat) (caps:List D):Prop where
 cp:fd.copy=fd
 fn:DR fd=some (fid,caps)
 nm:fd.norm=fd
 ny:∀r,fd≠ .yld r
 nt:∀a b,fd≠ .meth a b
theorem FV.v (fid:Nat) (vs:List V):FV (.v (.func fid vs)) fid (vs.map .v):=⟨rfl,rfl,rfl,(λ_ h=>by cases h),(λ_ _ h=>by cases h)⟩
theorem FV.r (fid r o:Nat) (caps:List D):FV (.func fid (.ref r o::caps)) fid (.ref r o::caps):=by
 have e:D.norm (.func fid (.ref r o::caps))= .func fid (.ref r o::caps):=by simp[D.norm,D.vs?,D.v?]
 exact⟨rfl,by unfold DR;rw[e],e,(λ_ h=>by cases h),(λ_ _ h=>by cases h)⟩
theorem AJF (fd:D) (fid:Nat) (caps:List D) (hf:FV fd fid caps) (all:List V) (m:Nat) (hm2:all.length=m) (hlen:m <2^40)
  (Q:AExit→St→Prop):∀(xs:List V) (k:Nat) (h:List Row) (r:Option Nat) (h':List Row),all.drop k=xs→k≤m→(∀x∈xs,∃cs,x= .agg cs∧cs.length=4)→IdxR Tryz.prog GLx fid caps xs h r h'→
  (r=none→∀e,AH e 0= .v (.list all)→Q (.exit 0) ⟨e,h'⟩)→(∀j,r=some j→∀e,AH e 4= .v (.int .i64 ((k+j:Nat):Int))→Q .ret ⟨e,h'⟩)→
  awp Tryz.prog GLx (.loop Ka) Q ⟨[(0,.v (.list all)),(1,fd),(7,.v (.int .i64 m)),(8,.v (.int .i64 k))],h⟩:=by
 have hfn:=hf.nm;have hcp:=hf.cp;have hcp2:=hf.cp;simp only[D.copy]at hcp2;intro xs;induction xs with
 |nil=>
  rintro k h r h' hd hk hc ⟨rfl,rfl⟩ hn hs;have h0:m≤k:=by rw[←hm2];exact AUq.1 hd
  refine Af ?_;simp only[Ka,AB,AA,AF,AE,Qo];have h2:¬(k:Int) <m:=by omega
  simp[h2,AM];exact hn rfl _ rfl
 |cons x xs ih=>
  rintro k h r h' hd hk hc ⟨b,h1,hb,hr⟩ hn hs;have hx:all[k]?=some x:=by have:=congrArg (·[0]?) hd;simpa using this
  have hkl:k <m:=by rw[←hm2];exact(ATp.1 hx).1
  have hd':all.drop (k+1)=xs:=by have:=congrArg (List.drop 1) hd;simpa using this
  have hw:IntKind.i64.wrap ((k:Int)+1)=k+1:=AJ;have hkl':(k:Int) <m:=by omega
  have hcx:=hc x (by simp);obtain⟨cs,rfl,hcs⟩:=hcx;have step:awp Tryz.prog GLx Ka (λe s'=>match e with| .normal=>b=false∧s'=⟨[(0,.v (.list all)),(1,fd),(7,.v (.int .i64 m)),(8,.v (.int .i64 (k+1:Nat)))],h1⟩| .ret=>b=true∧AH s'.e 4= .v (.int .i64 k)∧s'.h=h1| .exit _=>False) ⟨[(0,.v (.list all)),(1,fd),(7,.v (.int .i64 m)),(8,.v (.int .i64 k))],h⟩:=by
   simp only[Ka,AB,AA,AF,AE,Qo];simp[hkl',AD,AA,iM,iL,hx,hcp2,-Aj,hcs];have hcall:∀(K:St→Prop) (e:Env),AH e 11=fd→AH e 15= .v (.agg cs)→K ⟨BN e (some 16) (.v (.bool b)),h1⟩→Aj Tryz.prog GLx (some 16) (.t 11 false) [.t 15 false] K ⟨e,h⟩:=by
    intro K e e1 e2 hK;unfold Aj;have e3:(Opd.t 11 false).ev e=fd:=by simp only[Opd.ev,ATx,if_false,e1,hcp]
    rw[e3];split
    ·rename_i q;exact absurd rfl (hf.ny _)
    ·rename_i q;exact absurd rfl (hf.nt _ _)
    ·rw[hf.fn];refine⟨[.v (.bool b)],h1,?_,hK⟩;simpa[e2]using hb
   refine hcall _ _ ?_ ?_ ?_
   ·simp[hcp2]
   ·simp[AUG (AU8 hcs)]
   cases b with
   |false=>simp[AD,AE,AA,iJ,hw,hcp2]
   |true=>simp[AE,AB,AA,AG,iK]
  cases b with
  |false=>
   obtain⟨r',hr1,rfl⟩:=hr;refine Aw (AX _ ?_ step) (ih (k+1) h1 r' h' hd' (by omega) (λy hy=>hc y (by simp[hy])) hr1 (λe=>hn (by rw[e];rfl)) ?_)
   ·intro e s' h;cases e with
    |normal=>exact h.2
    |exit i=>exact h.elim
    |ret=>cases h.1
   ·intro j e e1 e2;refine hs (j+1) (by rw[e];rfl) e1 ?_;rw[e2];congr 3;omega
  |true=>
   obtain⟨rfl,rfl⟩:=hr;refine Af (AX _ ?_ step);intro e s' h;cases e with
   |normal=>cases h.1
   |exit i=>exact h.elim
   |ret=>obtain⟨_,h2,h3⟩:=h;have:=hs 0 rfl s'.e h2;rw[←h3]at this;exact this
theorem APt (fd:D) (fid:Nat) (caps:List D) (hf:FV fd fid caps) (xs:List V) (hlen:xs.length <2^40) (hc:∀x∈xs,∃cs,x= .agg cs∧cs.length=4) {h h':List Row} {r:Option Nat} (hr:IdxR Tryz.prog GLx fid caps xs h r h'):
  FX 251 [.v (.list xs),fd] h [.v (.int .i64 (CK r))] h':=by
 refine AN ASN rfl ?_;have hcp:=hf.cp;simp only[D.copy]at hcp;simp only[ANJ,AB,AA,AF,iO,iN,AQ];simp[hcp];refine AJF fd fid caps hf xs xs.length rfl hlen _ xs 0 h r h' rfl (AUR _) hc hr ?_ ?_
 ·rintro rfl e he;simp[AA,AG,iI,iP,CK]
 ·rintro j rfl e he;simp at he;simp[he,iP,CK]
theorem tZ (fd:D) (fid:Nat) (caps:List D) (hf:FV fd fid caps) (xs:List V) (hlen:xs.length <2^40) (hc:∀x∈xs,∃cs,x= .agg cs∧cs.length=4) {h h':List Row} {r:Option Nat} (hr:IdxR Tryz.prog GLx fid caps xs h r h'):
  FX 149 [.v (.list xs),fd] h [.v (.bool r.isSome)] h':=by
 refine AN AS8 rfl ?_;have hcp:=hf.cp;simp only[D.copy]at hcp;have hnm:=hf.nm;have hp:=APt fd fid caps hf xs hlen hc hr;have hge:=EY r;simp only[AOe,AB,AA,AF,o9,o8,AQ];simp[hcp,-D.norm];rw[hnm];refine⟨_,_,hp,?_⟩;simp[AG,ABk,hge]
theorem AJE (fd:D) (fid:Nat) (caps:List D) (hf:FV fd fid caps) (all:List V) (m:Nat) (hm2:all.length=m) (hlen:m <2^40)
  (Q:AExit→St→Prop):∀(xs:List V) (k:Nat) (h:List Row) (r:Option Nat) (h':List Row),all.drop k=xs→k≤m→(∀x∈xs,∃n,x= .int .i64 n)→IdxR Tryz.prog GLx fid caps xs h r h'→
  (r=none→∀e,AH e 0= .v (.list all)→Q (.exit 0) ⟨e,h'⟩)→(∀j,r=some j→∀e,AH e 4= .v (.int .i64 ((k+j:Nat):Int))→Q .ret ⟨e,h'⟩)→
  awp Tryz.prog GLx (.loop KZ) Q ⟨[(0,.v (.list all)),(1,fd),(7,.v (.int .i64 m)),(8,.v (.int .i64 k))],h⟩:=by
 have hfn:=hf.nm;have hcp:=hf.cp;have hcp2:=hf.cp;simp only[D.copy]at hcp2;intro xs;induction xs with
 |nil=>
  rintro k h r h' hd hk hc ⟨rfl,rfl⟩ hn hs;have h0:m≤k:=by rw[←hm2];exact AUq.1 hd
  refine Af ?_;simp only[KZ,AB,AA,AF,AE,Qn];have h2:¬(k:Int) <m:=by omega
  simp[h2,AM];exact hn rfl _ rfl
 |cons x xs ih=>
  rintro k h r h' hd hk hc ⟨b,h1,hb,hr⟩ hn hs;have hx:all[k]?=some x:=by have:=congrArg (·[0]?) hd;simpa using this
  have hkl:k <m:=by rw[←hm2];exact(ATp.1 hx).1
  have hd':all.drop (k+1)=xs:=by have:=congrArg (List.drop 1) hd;simpa using this
  have hw:IntKind.i64.wrap ((k:Int)+1)=k+1:=AJ;have hkl':(k:Int) <m:=by omega
  have hcx:=hc x (by simp);obtain⟨n0,rfl⟩:=hcx;have step:awp Tryz.prog GLx KZ (λe s'=>match e with| .normal=>b=false∧s'=⟨[(0,.v (.list all)),(1,fd),(7,.v (.int .i64 m)),(8,.v (.int .i64 (k+1:Nat)))],h1⟩| .ret=>b=true∧AH s'.e 4= .v (.int .i64 k)∧s'.h=h1| .exit _=>False) ⟨[(0,.v (.list all)),(1,fd),(7,.v (.int .i64 m)),(8,.v (.int .i64 k))],h⟩:=by
   simp only[KZ,AB,AA,AF,AE,Qn];simp[hkl',AD,AA,iF,iE,hx,hcp2,-Aj];have hcall:∀(K:St→Prop) (e:Env),AH e 11=fd→AH e 15= .v (.int .i64 n0)→K ⟨BN e (some 16) (.v (.bool b)),h1⟩→Aj Tryz.prog GLx (some 16) (.t 11 false) [.t 15 false] K ⟨e,h⟩:=by
    intro K e e1 e2 hK;unfold Aj;have e3:(Opd.t 11 false).ev e=fd:=by simp only[Opd.ev,ATx,if_false,e1,hcp]
    rw[e3];split
    ·rename_i q;exact absurd rfl (hf.ny _)
    ·rename_i q;exact absurd rfl (hf.nt _ _)
    ·rw[hf.fn];refine⟨[.v (.bool b)],h1,?_,hK⟩;simpa[e2]using hb
   refine hcall _ _ ?_ ?_ ?_
   ·simp[hcp2]
   ·simp[]
   cases b with
   |false=>simp[AD,AE,AA,iC,hw,hcp2]
   |true=>simp[AE,AB,AA,AG,iD]
  cases b with
  |false=>
   obtain⟨r',hr1,rfl⟩:=hr;refine Aw (AX _ ?_ step) (ih (k+1) h1 r' h' hd' (by omega) (λy hy=>hc y (by simp[hy])) hr1 (λe=>hn (by rw[e];rfl)) ?_)
   ·intro e s' h;cases e with
    |normal=>exact h.2
    |exit i=>exact h.elim
    |ret=>cases h.1
   ·intro j e e1 e2;refine hs (j+1) (by rw[e];rfl) e1 ?_;rw[e2];congr 3;omega
  |true=>
   obtain⟨rfl,rfl⟩:=hr;refine Af (AX _ ?_ step);intro e s' h;cases e with
   |normal=>cases h.1
   |exit i=>exact h.elim
   |ret=>obtain⟨_,h2,h3⟩:=h;have:=hs 0 rfl s'.e h2;rw[←h3]at this;exact this
theorem APs (fd:D) (fid:Nat) (caps:List D) (hf:FV fd fid caps) (xs:List V) (hlen:xs.length <2^40) (hc:∀x∈xs,∃n,x= .int .i64 n) {h h':List Row} {r:Option Nat} (hr:IdxR Tryz.prog GLx fid caps xs h r h'):
  FX 252 [.v (.list xs),fd] h [.v (.int .i64 (CK r))] h':=by
 refine AN AJe rfl ?_;have hcp:=hf.cp;simp only[D.copy]at hcp;simp only[AFY,AB,AA,AF,iH,iG,AQ];simp[hcp];refine AJE fd fid caps hf xs xs.length rfl hlen _ xs 0 h r h' rfl (AUR _) hc hr ?_ ?_
 ·rintro rfl e he;simp[AA,AG,iB,Tg,CK]
 ·rintro j rfl e he;simp at he;simp[he,Tg,CK]
theorem tY (fd:D) (fid:Nat) (caps:List D) (hf:FV fd fid caps) (xs:List V) (hlen:xs.length <2^40) (hc:∀x∈xs,∃n,x= .int .i64 n) {h h':List Row} {r:Option Nat} (hr:IdxR Tryz.prog GLx fid caps xs h r h'):
  FX 151 [.v (.list xs),fd] h [.v (.bool r.isSome)] h':=by
 refine AN AJ4 rfl ?_;have hcp:=hf.cp;simp only[D.copy]at hcp;have hnm:=hf.nm;have hp:=APs fd fid caps hf xs hlen hc hr;have hge:=EY r;simp only[AHG,AB,AA,AF,oy,ov,AQ];simp[hcp,-D.norm];rw[hnm];refine⟨_,_,hp,?_⟩;simp[AG,oz,hge]
theorem AI5 (fd:D) (fid:Nat) (caps:List D) (hf:FV fd fid caps) (all:List V) (m:Nat) (hm2:all.length=m) (hlen:m <2^40)
  (Q:AExit→St→Prop):∀(xs:List V) (k:Nat) (h:List Row) (r:Option Nat) (h':List Row),all.drop k=xs→k≤m→(∀x∈xs,∃cs,x= .agg cs∧cs.length=4)→IdxR Tryz.prog GLx fid caps xs h r h'→
  (r=none→∀e,AH e 0= .v (.list all)→Q (.exit 0) ⟨e,h'⟩)→(∀j,r=some j→∀e,AH e 4= .v (.int .i64 ((k+j:Nat):Int))→Q .ret ⟨e,h'⟩)→
  awp Tryz.prog GLx (.loop KT) Q ⟨[(0,.v (.list all)),(1,fd),(7,.v (.int .i64 m)),(8,.v (.int .i64 k))],h⟩:=by
 have hfn:=hf.nm;have hcp:=hf.cp;have hcp2:=hf.cp;simp only[D.copy]at hcp2;intro xs;induction xs with
 |nil=>
  rintro k h r h' hd hk hc ⟨rfl,rfl⟩ hn hs;have h0:m≤k:=by rw[←hm2];exact AUq.1 hd
  refine Af ?_;simp only[KT,AB,AA,AF,AE,QE];have h2:¬(k:Int) <m:=by omega
  simp[h2,AM];exact hn rfl _ rfl
 |cons x xs ih=>
  rintro k h r h' hd hk hc ⟨b,h1,hb,hr⟩ hn hs;have hx:all[k]?=some x:=by have:=congrArg (·[0]?) hd;simpa using this
  have hkl:k <m:=by rw[←hm2];exact(ATp.1 hx).1
  have hd':all.drop (k+1)=xs:=by have:=congrArg (List.drop 1) hd;simpa using this
  have hw:IntKind.i64.wrap ((k:Int)+1)=k+1:=AJ;have hkl':(k:Int) <m:=by omega
  have hcx:=hc x (by simp);obtain⟨cs,rfl,hcs⟩:=hcx;have step:awp Tryz.prog GLx KT (λe s'=>match e with| .normal=>b=false∧s'=⟨[(0,.v (.list all)),(1,fd),(7,.v (.int .i64 m)),(8,.v (.int .i64 (k+1:Nat)))],h1⟩| .ret=>b=true∧AH s'.e 4= .v (.int .i64 k)∧s'.h=h1| .exit _=>False) ⟨[(0,.v (.list all)),(1,fd),(7,.v (.int .i64 m)),(8,.v (.int .i64 k))],h⟩:=by
   simp only[KT,AB,AA,AF,AE,QE];simp[hkl',AD,AA,bd,bc,hx,hcp2,-Aj,hcs];have hcall:∀(K:St→Prop) (e:Env),AH e 11=fd→AH e 15= .v (.agg cs)→K ⟨BN e (some 16) (.v (.bool b)),h1⟩→Aj Tryz.prog GLx (some 16) (.t 11 false) [.t 15 false] K ⟨e,h⟩:=by
    intro K e e1 e2 hK;unfold Aj;have e3:(Opd.t 11 false).ev e=fd:=by simp only[Opd.ev,ATx,if_false,e1,hcp]
    rw[e3];split
    ·rename_i q;exact absurd rfl (hf.ny _)
    ·rename_i q;exact absurd rfl (hf.nt _ _)
    ·rw[hf.fn];refine⟨[.v (.bool b)],h1,?_,hK⟩;simpa[e2]using hb
   refine hcall _ _ ?_ ?_ ?_
   ·simp[hcp2]
   ·simp[AUG (AU8 hcs)]
   cases b with
   |false=>simp[AD,AE,AA,bZ,hw,hcp2]
   |true=>simp[AE,AB,AA,AG,ba]
  cases b with
  |false=>
   obtain⟨r',hr1,rfl⟩:=hr;refine Aw (AX _ ?_ step) (ih (k+1) h1 r' h' hd' (by omega) (λy hy=>hc y (by simp[hy])) hr1 (λe=>hn (by rw[e];rfl)) ?_)
   ·intro e s' h;cases e with
    |normal=>exact h.2
    |exit i=>exact h.elim
    |ret=>cases h.1
   ·intro j e e1 e2;refine hs (j+1) (by rw[e];rfl) e1 ?_;rw[e2];congr 3;omega
  |true=>
   obtain⟨rfl,rfl⟩:=hr;refine Af (AX _ ?_ step);intro e s' h;cases e with
   |normal=>cases h.1
   |exit i=>exact h.elim
   |ret=>obtain⟨_,h2,h3⟩:=h;have:=hs 0 rfl s'.e h2;rw[←h3]at this;exact this
theorem APM (fd:D) (fid:Nat) (caps:List D) (hf:FV fd fid caps) (xs:List V) (hlen:xs.length <2^40) (hc:∀x∈xs,∃cs,x= .agg cs∧cs.length=4) {h h':List Row} {r:Option Nat} (hr:IdxR Tryz.prog GLx fid caps xs h r h'):
  FX 318 [.v (.list xs),fd] h [.v (.int .i64 (CK r))] h':=by
 refine AN AJV rfl ?_;have hcp:=hf.cp;simp only[D.copy]at hcp;simp only[AE7,AB,AA,AF,bf,be,AQ];simp[hcp];refine AI5 fd fid caps hf xs xs.length rfl hlen _ xs 0 h r h' rfl (AUR _) hc hr ?_ ?_
 ·rintro rfl e he;simp[AA,AG,bY,TQ,CK]
 ·rintro j rfl e he;simp at he;simp[he,TQ,CK]
theorem AIL (fd:D) (fid:Nat) (caps:List D) (hf:FV fd fid caps) (xs:List V) (hlen:xs.length <2^40) (hc:∀x∈xs,∃cs,x= .agg cs∧cs.length=4) {h h':List Row} {r:Option Nat} (hr:IdxR Tryz.prog GLx fid caps xs h r h'):
  FX 277 [.v (.list xs),fd] h [.v (.bool r.isSome)] h':=by
 refine AN AJb rfl ?_;have hcp:=hf.cp;simp only[D.copy]at hcp;have hnm:=hf.nm;have hp:=APM fd fid caps hf xs hlen hc hr;have hge:=EY r;simp only[AFR,AB,AA,AF,fE,fD,AQ];simp[hcp,-D.norm];rw[hnm];refine⟨_,_,hp,?_⟩;simp[AG,fF,hge]
theorem AI3 (fd:D) (fid:Nat) (caps:List D) (hf:FV fd fid caps) (all:List V) (m:Nat) (hm2:all.length=m) (hlen:m <2^40)
  (Q:AExit→St→Prop):∀(xs:List V) (k:Nat) (h:List Row) (r:Option Nat) (h':List Row),all.drop k=xs→k≤m→(∀x∈xs,∃cs,x= .agg cs∧cs.length=4)→IdxR Tryz.prog GLx fid caps xs h r h'→
  (r=none→∀e,AH e 0= .v (.list all)→Q (.exit 0) ⟨e,h'⟩)→(∀j,r=some j→∀e,AH e 4= .v (.int .i64 ((k+j:Nat):Int))→Q .ret ⟨e,h'⟩)→
  awp Tryz.prog GLx (.loop KS) Q ⟨[(0,.v (.list all)),(1,fd),(7,.v (.int .i64 m)),(8,.v (.int .i64 k))],h⟩:=by
 have hfn:=hf.nm;have hcp:=hf.cp;have hcp2:=hf.cp;simp only[D.copy]at hcp2;intro xs;induction xs with
 |nil=>
  rintro k h r h' hd hk hc ⟨rfl,rfl⟩ hn hs;have h0:m≤k:=by rw[←hm2];exact AUq.1 hd
  refine Af ?_;simp only[KS,AB,AA,AF,AE,QC];have h2:¬(k:Int) <m:=by omega
  simp[h2,AM];exact hn rfl _ rfl
 |cons x xs ih=>
  rintro k h r h' hd hk hc ⟨b,h1,hb,hr⟩ hn hs;have hx:all[k]?=some x:=by have:=congrArg (·[0]?) hd;simpa using this
  have hkl:k <m:=by rw[←hm2];exact(ATp.1 hx).1
  have hd':all.drop (k+1)=xs:=by have:=congrArg (List.drop 1) hd;simpa using this
  have hw:IntKind.i64.wrap ((k:Int)+1)=k+1:=AJ;have hkl':(k:Int) <m:=by omega
  have hcx:=hc x (by simp);obtain⟨cs,rfl,hcs⟩:=hcx;have step:awp Tryz.prog GLx KS (λe s'=>match e with| .normal=>b=false∧s'=⟨[(0,.v (.list all)),(1,fd),(7,.v (.int .i64 m)),(8,.v (.int .i64 (k+1:Nat)))],h1⟩| .ret=>b=true∧AH s'.e 4= .v (.int .i64 k)∧s'.h=h1| .exit _=>False) ⟨[(0,.v (.list all)),(1,fd),(7,.v (.int .i64 m)),(8,.v (.int .i64 k))],h⟩:=by
   simp only[KS,AB,AA,AF,AE,QC];simp[hkl',AD,AA,bM,bL,hx,hcp2,-Aj,hcs];have hcall:∀(K:St→Prop) (e:Env),AH e 11=fd→AH e 15= .v (.agg cs)→K ⟨BN e (some 16) (.v (.bool b)),h1⟩→Aj Tryz.prog GLx (some 16) (.t 11 false) [.t 15 false] K ⟨e,h⟩:=by
    intro K e e1 e2 hK;unfold Aj;have e3:(Opd.t 11 false).ev e=fd:=by simp only[Opd.ev,ATx,if_false,e1,hcp]
    rw[e3];split
    ·rename_i q;exact absurd rfl (hf.ny _)
    ·rename_i q;exact absurd rfl (hf.nt _ _)
    ·rw[hf.fn];refine⟨[.v (.bool b)],h1,?_,hK⟩;simpa[e2]using hb
   refine hcall _ _ ?_ ?_ ?_
   ·simp[hcp2]
   ·simp[AUG (AU8 hcs)]
   cases b with
   |false=>simp[AD,AE,AA,bJ,hw,hcp2]
   |true=>simp[AE,AB,AA,AG,bK]
  cases b with
  |false=>
   obtain⟨r',hr1,rfl⟩:=hr;refine Aw (AX _ ?_ step) (ih (k+1) h1 r' h' hd' (by omega) (λy hy=>hc y (by simp[hy])) hr1 (λe=>hn (by rw[e];rfl)) ?_)
   ·intro e s' h;cases e with
    |normal=>exact h.2
    |exit i=>exact h.elim
    |ret=>cases h.1
   ·intro j e e1 e2;refine hs (j+1) (by rw[e];rfl) e1 ?_;rw[e2];congr 3;omega
  |true=>
   obtain⟨rfl,rfl⟩:=hr;refine Af (AX _ ?_ step);intro e s' h;cases e with
   |normal=>cases h.1
   |exit i=>exact h.elim
   |ret=>obtain⟨_,h2,h3⟩:=h;have:=hs 0 rfl s'.e h2;rw[←h3]at this;exact this
theorem APK (fd:D) (fid:Nat) (caps:List D) (hf:FV fd fid caps) (xs:List V) (hlen:xs.length <2^40) (hc:∀x∈xs,∃cs,x= .agg cs∧cs.length=4) {h h':List Row} {r:Option Nat} (hr:IdxR Tryz.prog GLx fid caps xs h r h'):
  FX 323 [.v (.list xs),fd] h [.v (.int .i64 (CK r))] h':=by
 refine AN AJU rfl ?_;have hcp:=hf.cp;simp only[D.copy]at hcp;simp only[AE4,AB,AA,AF,bO,bN,AQ];simp[hcp];refine AI3 fd fid caps hf xs xs.length rfl hlen _ xs 0 h r h' rfl (AUR _) hc hr ?_ ?_
 ·rintro rfl e he;simp[AA,AG,bI,TM,CK]
 ·rintro j rfl e he;simp at he;simp[he,TM,CK]
theorem APV (fd:D) (fid:Nat) (caps:List D) (hf:FV fd fid caps) (xs:List V) (hlen:xs.length <2^40) (hc:∀x∈xs,∃cs,x= .agg cs∧cs.length=4) {h h':List Row} {r:Option Nat} (hr:IdxR Tryz.prog GLx fid caps xs h r h'):
  FX 293 [.v (.list xs),fd] h [.v (.bool r.isSome)] h':=by
 refine AN AJZ rfl ?_;have hcp:=hf.cp;simp only[D.copy]at hcp;have hnm:=hf.nm;have hp:=APK fd fid caps hf xs hlen hc hr;have hge:=EY r;simp only[AFI,AB,AA,AF,dH,dG,AQ];simp[hcp,-D.norm];rw[hnm];refine⟨_,_,hp,?_⟩;simp[AG,dJ,hge]
theorem AJB (fd:D) (fid:Nat) (caps:List D) (hf:FV fd fid caps) (all:List V) (m:Nat) (hm2:all.length=m) (hlen:m <2^40)
  (Q:AExit→St→Prop):∀(xs:List V) (k:Nat) (h:List Row) (r:Option Nat) (h':List Row),all.drop k=xs→k≤m→(∀x∈xs,∃cs,x= .agg cs∧cs.length=3)→IdxR Tryz.prog GLx fid caps xs h r h'→
  (r=none→∀e,AH e 0= .v (.list all)→Q (.exit 0) ⟨e,h'⟩)→(∀j,r=some j→∀e,AH e 4= .v (.int .i64 ((k+j:Nat):Int))→Q .ret ⟨e,h'⟩)→
  awp Tryz.prog GLx (.loop KW) Q ⟨[(0,.v (.list all)),(1,fd),(7,.v (.int .i64 m)),(8,.v (.int .i64 k))],h⟩:=by
 have hfn:=hf.nm;have hcp:=hf.cp;have hcp2:=hf.cp;simp only[D.copy]at hcp2;intro xs;induction xs with
 |nil=>
  rintro k h r h' hd hk hc ⟨rfl,rfl⟩ hn hs;have h0:m≤k:=by rw[←hm2];exact AUq.1 hd
  refine Af ?_;simp only[KW,AB,AA,AF,AE,Qf];have h2:¬(k:Int) <m:=by omega
  simp[h2,AM];exact hn rfl _ rfl
 |cons x xs ih=>
  rintro k h r h' hd hk hc ⟨b,h1,hb,hr⟩ hn hs;have hx:all[k]?=some x:=by have:=congrArg (·[0]?) hd;simpa using this
  have hkl:k <m:=by rw[←hm2];exact(ATp.1 hx).1
  have hd':all.drop (k+1)=xs:=by have:=congrArg (List.drop 1) hd;simpa using this
  have hw:IntKind.i64.wrap ((k:Int)+1)=k+1:=AJ;have hkl':(k:Int) <m:=by omega
  have hcx:=hc x (by simp);obtain⟨cs,rfl,hcs⟩:=hcx;have step:awp Tryz.prog GLx KW (λe s'=>match e with| .normal=>b=false∧s'=⟨[(0,.v (.list all)),(1,fd),(7,.v (.int .i64 m)),(8,.v (.int .i64 (k+1:Nat)))],h1⟩| .ret=>b=true∧AH s'.e 4= .v (.int .i64 k)∧s'.h=h1| .exit _=>False) ⟨[(0,.v (.list all)),(1,fd),(7,.v (.int .i64 m)),(8,.v (.int .i64 k))],h⟩:=by
   simp only[KW,AB,AA,AF,AE,Qf];simp[hkl',AD,AA,fz,fy,hx,hcp2,-Aj,hcs];have hcall:∀(K:St→Prop) (e:Env),AH e 11=fd→AH e 15= .v (.agg cs)→K ⟨BN e (some 16) (.v (.bool b)),h1⟩→Aj Tryz.prog GLx (some 16) (.t 11 false) [.t 15 false] K ⟨e,h⟩:=by
    intro K e e1 e2 hK;unfold Aj;have e3:(Opd.t 11 false).ev e=fd:=by simp only[Opd.ev,ATx,if_false,e1,hcp]
    rw[e3];split
    ·rename_i q;exact absurd rfl (hf.ny _)
    ·rename_i q;exact absurd rfl (hf.nt _ _)
    ·rw[hf.fn];refine⟨[.v (.bool b)],h1,?_,hK⟩;simpa[e2]using hb
   refine hcall _ _ ?_ ?_ ?_
   ·simp[hcp2]
   ·simp[AUG (AU8 hcs)]
   cases b with
   |false=>simp[AD,AE,AA,fw,hw,hcp2]
   |true=>simp[AE,AB,AA,AG,fx]
  cases b with
  |false=>
   obtain⟨r',hr1,rfl⟩:=hr;refine Aw (AX _ ?_ step) (ih (k+1) h1 r' h' hd' (by omega) (λy hy=>hc y (by simp[hy])) hr1 (λe=>hn (by rw[e];rfl)) ?_)
   ·intro e s' h;cases e with
    |normal=>exact h.2
    |exit i=>exact h.elim
    |ret=>cases h.1
   ·intro j e e1 e2;refine hs (j+1) (by rw[e];rfl) e1 ?_;rw[e2];congr 3;omega
  |true=>
   obtain⟨rfl,rfl⟩:=hr;refine Af (AX _ ?_ step);intro e s' h;cases e with
   |normal=>cases h.1
   |exit i=>exact h.elim
   |ret=>obtain⟨_,h2,h3⟩:=h;have:=hs 0 rfl s'.e h2;rw[←h3]at this;exact this
theorem APl (fd:D) (fid:Nat) (caps:List D) (hf:FV fd fid caps) (xs:List V) (hlen:xs.length <2^40) (hc:∀x∈xs,∃cs,x= .agg cs∧cs.length=3) {h h':List Row} {r:Option Nat} (hr:IdxR Tryz.prog GLx fid caps xs h r h'):
  FX 272 [.v (.list xs),fd] h [.v (.int .i64 (CK r))] h':=by
 refine AN AJc rfl ?_;have hcp:=hf.cp;simp only[D.copy]at hcp;simp only[AFU,AB,AA,AF,gB,gA,AQ];simp[hcp];refine AJB fd fid caps hf xs xs.length rfl hlen _ xs 0 h r h' rfl (AUR _) hc hr ?_ ?_
 ·rintro rfl e he;simp[AA,AG,fv,Tc,CK]
 ·rintro j rfl e he;simp at he;simp[he,Tc,CK]
theorem AQX (fd:D) (fid:Nat) (caps:List D) (hf:FV fd fid caps) (xs:List V) (hlen:xs.length <2^40) (hc:∀x∈xs,∃cs,x= .agg cs∧cs.length=3) {h h':List Row} {r:Option Nat} (hr:IdxR Tryz.prog GLx fid caps xs h r h'):
  FX 183 [.v (.list xs),fd] h [.v (.bool r.isSome)] h':=by
 refine AN AJ0 rfl ?_;have hcp:=hf.cp;simp only[D.copy]at hcp;have hnm:=hf.nm;have hp:=APl fd fid caps hf xs hlen hc hr;have hge:=EY r;simp only[AGQ,AB,AA,AF,oD,oC,AQ];simp[hcp,-D.norm];rw[hnm];refine⟨_,_,hp,?_⟩;simp[AG,oE,hge]
set_option maxHeartbeats 2000000 in
theorem AJJ (f:F) (Q:AExit→St→Prop) (hQ:Q .normal ⟨[(1,.ref 0 0),(27,.v (.bool (JO f)))],[.cells f.cells]⟩):
  awp Tryz.prog GLx (.reg RR [1,27]) Q ⟨[(1,.ref 0 0)],[.cells f.cells]⟩:=by
 obtain⟨B,hB⟩:∃B,JO f=B:=⟨_,rfl⟩;rw[hB]at hQ;obtain⟨op,n,ins,kids⟩:=f;simp only[F.cells,JO,F.op,F.n,F.ins,F.kids]at*;rw[AA];simp only[RR];by_cases h2:op=2
 ·subst h2;simp at hB;subst hB;simpa using hQ
 ·by_cases hl:0 <ins.length
  ·have hl':0 <(ins.length:Int):=by omega
   simp[h2,hl]at hB;subst hB;simp[h2,hl,hl'];exact hQ
  ·have hl':¬0 <(ins.length:Int):=by omega
   have hl2:ins=[]:=by cases ins<;>simp_all
   subst hl2;by_cases h1:op=1
   ·subst h1;simp at hB;subst hB;simpa using hQ
   ·by_cases hn:n=0
    ·subst hn;simp at hB;subst hB;simp[h2,h1];exact hQ
    ·have hn2:(n != 0)=true:=by simpa using hn
     simp[h2,h1,hn]at hB;subst hB;simp[h2,h1,hn2];exact hQ
set_option maxHeartbeats 4000000 in
theorem AQn (f:F) (hf:f.ok1):PX 144 [f.V] [.bool (Ax f)]:=by
 refine AK ATC rfl ?_;obtain⟨R,hR⟩:∃R,Ax f=R:=⟨_,rfl⟩;rw[hR];have hp:=(APw f.ins hf.2.2.1 hf.2.2.2).fsp;unfold AOj;rw[AB,AA];obtain⟨op,n,ins,kids⟩:=f;simp only[F.V_eq,F.op,F.n,F.ins,F.kids]at*;simp[pd,AY];rw[AB,AB];have ha:=AJJ ⟨op,n,ins,kids⟩;simp only[F.cells,F.op,F.n,F.ins,F.kids]at ha;refine ha _ ?_;simp[AE];cases ho:JO ⟨op,n,ins,kids⟩with
 |true=>
  rw[I5 ho]at hR;simp[AB,AA,AG,pZ,Gn,hR]
 |false=>
  rw[Hl ho]at hR;simp only[F.op,F.n,F.ins,F.kids]at hR;simp only[AD,if_neg AWH];simp only[AB,AA,AF,AE,pY,pX,pW];simp;by_cases h0:op=0
  ·subst h0;simp at hR;simp[AG,AB,AA,pV,Gn,Sc,hR]
  ·simp only[h0,if_false]at hR;simp[h0,AB,AA,AE,pU];by_cases h1:op=1
   ·subst h1;simp at hR;simp[AG,AB,AA,pT];by_cases hk:kids.length=0
    ·have hk2:kids=[]:=AWJ.1 hk;subst hk2;by_cases b1:0≤n<;>by_cases b2:n <64<;>simp[b1,b2]at hR<;>simp[b1,b2,Gn,hR]
    ·have hk2:¬kids=[]:=λh=>hk (by rw[h];rfl);simp[hk2]at hR;simp[hk,hk2,Gn,hR]
   ·simp only[h1,if_false]at hR;simp[h1,AB,AA,AE,pS];by_cases h2:op=2
    ·subst h2;simp at hR;simp[AG,AB,AA,Ub];by_cases hk:kids.length=0
     ·have hk2:kids=[]:=AWJ.1 hk;subst hk2;by_cases b1:0≤n<;>by_cases b2:n <32<;>simp[b1,b2]at hR<;>simp[b1,b2,Gn,hR]
      refine⟨_,_,hp _,?_⟩;simp;rw[←hR,AUt];simp
     ·have hk2:¬kids=[]:=λh=>hk (by rw[h];rfl);simp[hk2]at hR;simp[hk,hk2,Gn,hR]
    ·simp only[h2,if_false]at hR;simp[h2,AB,AA,AE,Ua];by_cases h3:op=3
     ·subst h3;simp at hR;simp[AD,AG,AB,AA,Mz,Gn,JW,hR]
     ·simp[h3,AD,AA,UZ];by_cases h6:op=6
      ·subst h6;simp at hR;simp[AD,AG,AB,AA,Mz,Gn,JW,hR]
      ·simp[h3,h6]at hR;simp[h6,AD,AA,AG,UY];by_cases h4:op=4<;>by_cases h5:op=5<;>simp[h4,h5]at hR<;>simp[h4,h5,Gn,hR]
theorem AQo:∀f:F,f.ok→PX 143 [f.V] [.int .i64 f.depth]:=by
 refine F.ind λop n ins kids ih hok=>?_;refine AK ATD rfl ?_;have hsz:=hok.2;rw[F.size_eq]at hsz;have hkl:=F.kids_len kids;have hdl:=La kids;simp only[AOk,AB,AA,AF,pm,pl,pk,AY];simp[F.V_eq];refine Ae kids.length (λk s=>s.e=[(3,.v (.int .i64 (F.depths (kids.take k)))),(7,.v (.list (kids.map F.V))),(8,.v (.int .i64 kids.length)),(9,.v (.int .i64 k))]) (by simp[F.depths]) ?_;rintro k ⟨se,sh⟩ hk he;simp only at he;subst he;simp only[pn,AB,AA,AF,AE,pj];simp;by_cases h1:k <kids.length
 ·obtain⟨x,hx⟩:∃x,kids[k]?=some x:=⟨_,ATo h1⟩;have hxm:=ATq hx;have hw:IntKind.i64.wrap ((k:Int)+1)=k+1:=AJ;have p1:=(ih x hxm (F.ok_kid hok hxm)).fsp;have ht:=JB hx;rw[if_pos (by omega),AD];simp only[AA,ph,pg,pf];obtain⟨xo,xn,xi,xk⟩:=x;simp[F.V_eq]at p1;simp[hx,F.V_eq,AO];refine⟨_,_,p1 _,?_⟩;simp[hw,h1,ht];split<;>omega
 ·have hk2:k=kids.length:=by omega
  subst hk2;rw[if_neg (by omega),AM];have hw2:IntKind.i64.wrap ((F.depths kids:Int)+1)=F.depths kids+1:=AJ;simp[AA,AG,pe,ABm,hw2,F.depth]
def RunY (P:Program) (GL:AV) (r:Nat):List V→List Row→Bool→List Row→Prop
 |[],X,b,X'=>b=true∧X'=X
 |n::ns,X,b,X'=>∃b1 X1,X1.length=X.length∧(∀J,∃J2,YSp P GL r [.v n] (X++J) b1 (X1++(J++J2)))∧if b1 then RunY P GL r ns X1 b X' else b=false∧X'=X1
section
variable {P:Program} {GL:AV} {r:Nat}
theorem RunY.len:∀ {ns:List V} {X:List Row} {b:Bool} {X':List Row},RunY P GL r ns X b X'→X'.length=X.length
 |[],X,b,X',h=>by rw[h.2]
 |n::ns,X,b,X',h=>by
  obtain⟨b1,X1,h1,_,h2⟩:=h;cases b1 with
  |true=>rw[RunY.len h2,h1]
  |false=>rw[h2.2,h1]
theorem RunY.app:∀ {xs ys:List V} {X:List Row} {b:Bool} {X':List Row},RunY P GL r (xs++ys) X b X'→∃b1 X1,RunY P GL r xs X b1 X1∧if b1 then RunY P GL r ys X1 b X' else b=false∧X'=X1
 |[],ys,X,b,X',h=>⟨true,X,⟨rfl,rfl⟩,h⟩
 |x::xs,ys,X,b,X',h=>by
  obtain⟨b1,X1,h1,h2,h3⟩:=h;cases b1 with
  |true=>
   obtain⟨b2,X2,h4,h5⟩:=RunY.app (xs:=xs) h3;exact⟨b2,X2,⟨true,X1,h1,h2,h4⟩,h5⟩
  |false=>exact⟨false,X1,⟨false,X1,h1,h2,rfl,rfl⟩,h3⟩
end
theorem AQj (x:F) (c:Nat) (h:List Row) (a:Nat) (hc:h[c]?=some (.cells [.func 148 [.ref a 0,.ref c 0]])) (b:Bool) (h':List Row)
  (hp:FX 148 [.v x.V,.ref a 0,.ref c 0] (h++[.cells x.cells]) [.v (.bool b)] h'):FX 150 [.v x.V,.ref c 0] h [.v (.bool (!b))] h':=by
 refine AN AS7 rfl ?_;have hc2:=AS [.cells x.cells] hc;obtain⟨xo,xn,xi,xk⟩:=x;simp only[F.cells,F.op,F.n,F.ins,F.kids,F.V_eq]at*;simp only[AOc,AB,AA,AF,AE,o7,o6,AQ];simp[hc2,D.vs?,D.v?];refine⟨_,_,hp,?_⟩;simp[AG,ABb]
theorem ARP (r:Nat) (a c:Nat) (kids:List F) (hk:∀k∈kids,∀X b X' J i j,a=X.length+i→c=X.length+j→RunY Tryz.prog GLx r (k.nodes.map F.V) X b X'→J[i]?=some (.cells [.yld r])→J[j]?=some (.cells [.func 148 [.ref a 0,.ref c 0]])→
   ∃J',FX 148 [.v k.V,.ref a 0,.ref c 0] (X++J) [.v (.bool b)] (X'++(J++J'))):
  ∀(X:List Row) (b:Bool) (X':List Row) (J:List Row) (i j:Nat),a=X.length+i→c=X.length+j→RunY Tryz.prog GLx r ((kids.flatMap F.nodes).map F.V) X b X'→J[i]?=some (.cells [.yld r])→J[j]?=some (.cells [.func 148 [.ref a 0,.ref c 0]])→
   ∃J' q,IdxR Tryz.prog GLx 150 [.ref c 0] (kids.map F.V) (X++J) q (X'++(J++J'))∧q.isSome= !b:=by
 induction kids with
 |nil=>
  rintro X b X' J i j ha hc ⟨rfl,rfl⟩ hi hj;exact⟨[],none,⟨rfl,by simp⟩,rfl⟩
 |cons k ks ih=>
  intro X b X' J i j ha hc hr hi hj;rw[AT8,AUN]at hr;obtain⟨b1,X1,h1,h2⟩:=hr.app;have hl:=h1.len;obtain⟨J1,hp⟩:=hk k (by simp) X b1 X1 (J++[.cells k.cells]) i j ha hc h1 (AS _ hi) (AS _ hj);have hcc:(X++J)[c]?=some (.cells [.func 148 [.ref a 0,.ref c 0]]):=by rw[Av X J c j hc];exact hj
  rw[←AT1]at hp;have hq:=AQj k c (X++J) a hcc b1 _ hp;cases b1 with
  |true=>
   simp only[if_true]at h2;obtain⟨J2,q,h3,h4⟩:=ih (λx hx=>hk x (by simp[hx])) X1 b X' (J++[.cells k.cells]++J1) i j (by rw[hl];exact ha) (by rw[hl];exact hc) h2 (AS _ (AS _ hi)) (AS _ (AS _ hj));refine⟨[.cells k.cells]++J1++J2,q.map (· +1),⟨false,_,hq,?_⟩,by cases q<;>simpa using h4⟩
   simp only[ATx,if_false];refine⟨q,?_,rfl⟩;simpa[AT1]using h3
  |false=>
   simp only[ATx,if_false]at h2;obtain⟨rfl,rfl⟩:=h2;refine⟨[.cells k.cells]++J1,some 0,⟨true,_,hq,?_⟩,rfl⟩;simp[AT1]
theorem AQk (r:Nat) (a c:Nat):∀f:F,f.ok→∀X b X' J i j,a=X.length+i→c=X.length+j→RunY Tryz.prog GLx r (f.nodes.map F.V) X b X'→J[i]?=some (.cells [.yld r])→J[j]?=some (.cells [.func 148 [.ref a 0,.ref c 0]])→
   ∃J',FX 148 [.v f.V,.ref a 0,.ref c 0] (X++J) [.v (.bool b)] (X'++(J++J')):=by
 refine F.ind λop n ins kids ih hok=>?_;intro X b X' J i j ha hc hr hi hj;have hsz:=hok.2;rw[F.size_eq]at hsz;have hkl:=F.kids_len kids;rw[F.nodes_eq,ATz]at hr;obtain⟨b1,X1,hl,hy,hr2⟩:=hr;obtain⟨J2,hy2⟩:=hy (J++[.cells (F.mk op n ins kids).cells]);have ga:(X++(J++[.cells (F.mk op n ins kids).cells]))[a]?=some (.cells [.yld r]):=by rw[Av X _ a i ha];exact AS _ hi
 have gc:(X++(J++[.cells (F.mk op n ins kids).cells]))[c]?=some (.cells [.func 148 [.ref a 0,.ref c 0]]):=by rw[Av X _ c j hc];exact AS _ hj
 have gf:(X++(J++[.cells (F.mk op n ins kids).cells]))[X.length+J.length]?=some (.cells (F.mk op n ins kids).cells):=by rw[Av X _ _ J.length rfl];simp
 have gf2:(X1++(J++[.cells (F.mk op n ins kids).cells]++J2))[X.length+J.length]?=some (.cells (F.mk op n ins kids).cells):=by rw[Av X1 _ _ J.length (by rw[hl])];simp
 have hkids:∀x∈kids.map F.V,∃cs,x=V.agg cs∧cs.length=4:=by
  intro x hx;obtain⟨k,_,rfl⟩:=ATw.1 hx;obtain⟨ko,kn,ki,kk⟩:=k;exact⟨_,F.V_eq ..,rfl⟩
 have e0:X++J++[.cells (F.mk op n ins kids).cells]=X++(J++[.cells (F.mk op n ins kids).cells]):=AT1 ..;cases b1 with
 |false=>
  obtain⟨rfl,rfl⟩:=hr2;refine⟨[.cells (F.mk op n ins kids).cells]++J2,AN AJ5 rfl ?_⟩;simp only[F.cells,F.op,F.n,F.ins,F.kids,F.V_eq]at*;simp only[AHH,AB,AA,AF,AE,RO,RN,AQ];simp[-Bool.exists_bool];simp[ga,gf,-Bool.exists_bool];refine⟨_,_,hy2,?_⟩;simp[AG,pA]
 |true=>
  simp only[if_true]at hr2;obtain⟨J3,q,hidx,hq⟩:=ARP r a c kids (λk hk=>ih k hk (F.ok_kid hok hk)) X1 b X' (J++[.cells (F.mk op n ins kids).cells]++J2) i j (by rw[hl];exact ha) (by rw[hl];exact hc) hr2 (AS _ (AS _ hi)) (AS _ (AS _ hj));have hp:=tZ (.func 150 [.ref c 0]) 150 [.ref c 0] (FV.r 150 c 0 []) (kids.map F.V) (by simp;omega) hkids hidx;refine⟨[.cells (F.mk op n ins kids).cells]++J2++J3,AN AJ5 rfl ?_⟩;simp only[F.cells,F.op,F.n,F.ins,F.kids,F.V_eq]at*;simp only[AHH,AB,AA,AF,AE,RO,RN,AQ];simp[-Bool.exists_bool];simp[ga,gf,-Bool.exists_bool];refine⟨_,_,hy2,?_⟩;simp at gf2;simp[gf2,D.vs?,D.v?];simp at hp;rw[hq]at hp;refine⟨_,_,hp,?_⟩;simp[AG,pA]
theorem p68 (f:F) (h:List Row):FX 68 [.v f.V] h [.func 147 [.ref h.length 0]] (h++[.cells f.cells]):=by
 refine AN k68 rfl ?_;obtain⟨op,n,ins,kids⟩:=f;simp[c68,awp,xU,xR,ALZ,AQ,F.V_eq,F.cells,F.op,F.n,F.ins,F.kids,D.vs?,D.v?]
theorem ta (f:F) (hok:f.ok) (r q:Nat) (X:List Row) (b:Bool) (X':List Row) (hr:RunY Tryz.prog GLx r (f.nodes.map F.V) X b X') (hq:X[q]?=some (.cells f.cells)):
  ∃J,FX 147 [.yld r,.ref q 0] X [] (X'++J):=by
 obtain⟨J',hp⟩:=AQk r X.length (X.length+1) f hok X b X' [.cells [.yld r],.cells [.func 148 [.ref X.length 0,.ref (X.length+1) 0]]] 0 1 rfl rfl hr rfl rfl;refine⟨[.cells [.yld r],.cells [.func 148 [.ref X.length 0,.ref (X.length+1) 0]]]++J',AN AS9 rfl ?_⟩;obtain⟨op,n,ins,kids⟩:=f;have hq2:=AS [.cells [.yld r],.cells [.func 148 [.ref X.length 0,.ref (X.length+1) 0]]] hq;simp only[F.cells,F.op,F.n,F.ins,F.kids,F.V_eq]at*;simp only[AOg,AB,AA,AF,AE,pF,pE,pC,pB,AQ];simp[AO,D.vs?,D.v?]
 try simp at hq2
 simp[hq2];exact⟨⟨_,hp⟩,rfl⟩
theorem ARR (A B:Row) (e0:Env) (he:AH e0 3= .ref 1 0):∀(ns:List V) (k:Nat),k+ns.length≤2^41→
  RunY Tryz.prog GLx 3 ns [A,.cells [.v (.int .i64 k)],B,Ao Tryz.prog GLx .ready e0 [6] Il Ik] true [A,.cells [.v (.int .i64 (k+ns.length:Nat))],B,Ao Tryz.prog GLx .ready e0 [6] Il Ik]:=by
 intro ns;induction ns with
 |nil=>intro k _;exact⟨rfl,rfl⟩
 |cons n ns ih=>
  intro k hk;simp only[AUA]at hk;refine⟨true,[A,.cells [.v (.int .i64 (k+1:Nat))],B,Ao Tryz.prog GLx .ready e0 [6] Il Ik],rfl,λJ=>⟨[],?_⟩,?_⟩
  ·refine Ci (e0:=e0) (ps:=[6]) (asg:=Il) (body:=Ik) (by simp) rfl ?_;have hw:IntKind.i64.wrap ((k:Int)+1)=k+1:=AJ;simp only[FZ,Il,Ik,AA,AF,AD,pq];simp[he,hw,AO,CH]
  ·have:=ih (k+1) (by omega);have e:k+1+ns.length=k+(n::ns).length:=by simp;omega
   rw[e]at this;exact this
theorem AQp (f:F) (hok:f.ok):PX 142 [f.V] [.int .i64 f.size]:=by
 refine AK ATE rfl ?_;have hsz:=hok.2;have h68:=p68 f;have hr:=ARR (.cells f.cells) (.cells f.cells) (cpE [(3,.ref 1 0),(5,.func 147 [.ref 2 0])]) rfl (f.nodes.map F.V) 0 (by simp;unfold F.size at hsz;omega);obtain⟨J,hp⟩:=ta f hok 3 2 _ _ _ hr rfl;have e1:(f.nodes.map F.V).length=f.size:=by simp[F.size]
 rw[e1,AUv]at hp;generalize f.size=sz at*;obtain⟨op,n,ins,kids⟩:=f;simp only[F.cells,F.op,F.n,F.ins,F.kids,F.V_eq]at*;simp only[AOl,AB,AA,AF,pu,pt,pr,AY];simp[AO];refine⟨_,_,h68 _,?_⟩;simp;refine CV 147 [.ref 2 0] [] _ _ .ready rfl rfl hp rfl ?_;simp[Bo,po,AG,ABn]
theorem y66 (A B:Row) (e0:Env) (he:AH e0 2= .ref 1 0) (g:F) (hg:g.ok1) (J:List Row):∃J2,YSp Tryz.prog GLx 3 [.v g.V] ([A,.cells [.v (.int .i64 0)],B,Ao Tryz.prog GLx .ready e0 [14] Hu Ht]++J) (Ax g)
   ((if Ax g then [A,.cells [.v (.int .i64 0)],B,Ao Tryz.prog GLx .ready e0 [14] Hu Ht] else [A,.cells [.v (.int .i64 1)],B,Ao Tryz.prog GLx (.done none) e0 [14] Hu Ht])++(J++J2)):=by
 refine⟨[.cells g.cells],Ci (e0:=e0) (ps:=[14]) (asg:=Hu) (body:=Ht) (by simp) rfl ?_⟩;have hp:=(AQn g hg).fsp;generalize Ax g=b at*;obtain⟨op,n,ins,kids⟩:=g;simp only[F.cells,F.op,F.n,F.ins,F.kids,F.V_eq]at*;simp only[FZ,Hu,Ht,AA,AF,AB,AE,yA,x8];have e:J.length+1+1+1+1=J.length+4:=by omega
 simp[he,AO];simp at hp;refine⟨_,_,hp _,?_⟩;cases b with
 |true=>simp[AD,CH]
 |false=>simp[AB,AA,AG,xr,AO,CH,he]
theorem l66 (A B:Row) (e0:Env) (he:AH e0 2= .ref 1 0):∀(ns:List F),(∀g∈ns,g.ok1)→
  RunY Tryz.prog GLx 3 (ns.map F.V) [A,.cells [.v (.int .i64 0)],B,Ao Tryz.prog GLx .ready e0 [14] Hu Ht] (ns.all Ax)
   (if ns.all Ax then [A,.cells [.v (.int .i64 0)],B,Ao Tryz.prog GLx .ready e0 [14] Hu Ht] else [A,.cells [.v (.int .i64 1)],B,Ao Tryz.prog GLx (.done none) e0 [14] Hu Ht]):=by
 intro ns;induction ns with
 |nil=>intro _;exact⟨rfl,rfl⟩
 |cons n ns ih=>
  intro hk;have hy:=y66 A B e0 he n (hk n (by simp));refine⟨Ax n,_,?_,hy,?_⟩
  ·split<;>rfl
  ·cases hf:Ax n with
   |true=>
    simp only[if_true,AVS,hf,AUS];exact ih λg hg=>hk g (by simp[hg])
   |false=>simp[hf]
theorem p66 (f:F) (hok:f.ok):PX 66 [f.V] [.int .i64 (BH f)]:=by
 refine AK k66 rfl ?_;obtain⟨R,hR⟩:∃R,BH f=R:=⟨_,rfl⟩;rw[hR];unfold BH at hR;have h1:=(AQp f hok).fsp;have h2:=(AQo f hok).fsp;have h68:=p68 f;have hr:=l66 (.cells f.cells) (.cells f.cells) (cpE [(2,.ref 1 0),(13,.func 147 [.ref 2 0])]) rfl f.nodes hok.1;obtain⟨J,hp⟩:=ta f hok 3 2 _ _ _ hr rfl;generalize f.nodes.all Ax=al at*;generalize f.size=sz at*;generalize f.depth=dp at*;obtain⟨op,n,ins,kids⟩:=f;simp only[F.cells,F.op,F.n,F.ins,F.kids,F.V_eq]at*;simp only[c66,AB,AA,AF,AE,yD,yC,AY];simp at h1 h2 h68;simp;refine⟨_,_,h1 _,?_⟩;by_cases b1:96 <sz
 ·have b1':96 <(sz:Int):=by omega
  simp[b1]at hR;simp[b1',AB,AA,AG,Xf,Xg,AO,hR]
 ·have b1':¬96 <(sz:Int):=by omega
  simp[b1'];refine⟨_,_,h2 _,?_⟩;by_cases b2:8 <dp
  ·have b2':8 <(dp:Int):=by omega
   simp[b2]at hR;simp[b2',AB,AA,AG,Xf,Xg,AO,hR]
  ·have b2':¬8 <(dp:Int):=by omega
   simp[b1,b2]at hR;simp[b2',AD,AA,yB];refine⟨_,_,h68 _,?_⟩;simp;cases al with
   |true=>
    simp at hR;refine CV 147 [.ref 2 0] [] _ _ .ready rfl rfl hp rfl ?_;simp[Bo,AA,AG,xq,Xg,AO,hR]
   |false=>
    simp at hR;refine CV 147 [.ref 2 0] [] _ _ (.done none) rfl rfl hp rfl ?_;simp[Bo,Xg,hR]
def Pr0:Ow:=λ_ _ _=>none
def DF:List (List Int):=[[],[0],[0],[1,2],[],[4]]
theorem AIe:∀ps∈DF,PX 120 [.int .i64 6,AL .i64 ps] [.bool true]:=by
 intro ps hps;simp only[DF,ATt,AT2,or_false]at hps;rcases hps with rfl|rfl|rfl|rfl|rfl|rfl
 all_goals exact GQ (Pr:=Pr0) (fuel:=100) Ou (λf args h x hx=>by cases hx) (by kernel_rfl)
theorem AId:∀ps∈DF,PX 121 [AL .i64 ps] [.bool true]:=by
 intro ps hps;simp only[DF,ATt,AT2,or_false]at hps;rcases hps with rfl|rfl|rfl|rfl|rfl|rfl
 all_goals exact GQ (Pr:=Pr0) (fuel:=100) Ou (λf args h x hx=>by cases hx) (by kernel_rfl)
theorem AIc:∀ps∈DF,PX 122 [AL .i64 ps] [AL .i64 ps]:=by
 intro ps hps;simp only[DF,ATt,AT2,or_false]at hps;rcases hps with rfl|rfl|rfl|rfl|rfl|rfl
 all_goals exact GQ (Pr:=Pr0) (fuel:=100) Ou (λf args h x hx=>by cases hx) (by kernel_rfl)
abbrev bv (b:Bool):D:= .v (.bool b)
def Ft:D:= .own 22 1 (DF.map (AL .i64))
def txR (bs:List Bool):Row:= .cells (Ft::bs.map bv)
def Bh (bs dn op:List Bool):List Row:=[txR bs,.cells [.ref 0 0],.cells (dn.map bv),.cells (op.map bv),.cells [.sref 2 6],.cells [.sref 3 6],.cells [.func 211 [.ref 4 0,.ref 5 0,.ref 1 0,.ref 6 0]]]
def inJ (i:Nat) (src:List Bool):Nat→List Bool→List Bool
 |0,bs=>bs
 |j+1,bs=>(inJ i src j bs).set (i*64+j) ((inJ i src j bs).getD (i*64+j) false||src.getD j false)
theorem MF (i:Nat) (src:List Bool) (bs:List Bool):∀j,(inJ i src j bs).length=bs.length
 |0=>rfl
 |j+1=>by rw[inJ,AUr,MF i src bs j]
def upP (i:Nat) (bs:List Bool) (p:Nat):List Bool:=inJ i ((bs.drop (p*64)).take 64) 64 bs
theorem ARL (i:Nat) (hi:i <6) (bs dn op src:List Bool) (hbs:bs.length=4096) (hs:src.length=64) (d41 d42 d43:D):
  awp Tryz.prog GLx (.loop Q9) (λe s=>e= .exit 2∧AH s.e 0= .v (.int .i64 i)∧AH s.e 1= .ref 4 0∧AH s.e 3= .ref 1 0∧AH s.e 4= .ref 6 0∧AH s.e 41=d41∧AH s.e 42=d42∧AH s.e 43=d43∧s.h=Bh (inJ i src 64 bs) dn op)
   ⟨[(0,.v (.int .i64 i)),(1,.ref 4 0),(3,.ref 1 0),(4,.ref 6 0),(41,d41),(42,d42),(43,d43),(56,.agg (src.map bv)),(57,.v (.int .i64 0))],Bh bs dn op⟩:=by
 refine Ac 64 (λj=>⟨[(0,.v (.int .i64 i)),(1,.ref 4 0),(3,.ref 1 0),(4,.ref 6 0),(41,d41),(42,d42),(43,d43),(56,.agg (src.map bv)),(57,.v (.int .i64 j))],Bh (inJ i src j bs) dn op⟩) (by simp[inJ]) ?_;intro j hj;simp only[Q9,AB,AA,AF,AE,UA];simp;by_cases hlt:j <64
 ·have hw:IntKind.i64.wrap ((j:Int)+1)=j+1:=AJ;have hnext:inJ i src (j+1) bs=(inJ i src j bs).set (i*64+j) ((inJ i src j bs).getD (i*64+j) false||src.getD j false):=rfl
  have hbl:=MF i src bs j;rw[hnext];generalize inJ i src j bs=B at*;obtain⟨b,hb⟩:∃b,B[i*64+j]?=some b:=⟨_,ATo (by omega)⟩;obtain⟨c,hc⟩:∃c,src[j]?=some c:=⟨_,ATo (by omega)⟩;have hbD:B.getD (i*64+j) false=b:=by rw[AWV,hb];rfl
  have hcD:src.getD j false=c:=by rw[AWV,hc];rfl
  rw[hbD,hcD];obtain⟨ds,hds⟩:∃ds,Ft::B.map bv=ds:=⟨_,rfl⟩;have hlen:ds.length=4097:=by rw[←hds];simp;omega
  have hld:ds[1+i*64+j]?=some (bv b):=by rw[←hds,show 1+i*64+j=(i*64+j)+1 by omega];simp[hb]
  have hput:∀v,AO ds (1+i*64+j) [bv v]=Ft::(B.set (i*64+j) v).map bv:=by
   intro v;rw[←hds,show 1+i*64+j=(i*64+j)+1 by omega,AO];simp only[List.take_succ_cons,AV4,List.drop_succ_cons,List.map_set,AUl];rw[AV2,if_pos (by simp;omega)];simp
  have hlt2:(i:Int) <64:=by omega
  have hj2:(j:Int) <64:=by omega
  have hle:1+i*64+j+1≤4097:=by omega
  rw[if_pos (by omega),AD];simp only[AA,T9,Bh,txR,hds];have hj63:j≤63:=by omega
  simp[hs,hc,hj63,Aa,T8];simp[hlen,hld,hlt2,hj2,hlt,hle,hi];cases b with
  |false=>
   simp[hput,hlen,hle,AA,Mq,hw,Bh,txR,hlt]
  |true=>
   simp[hput,hlen,hle,AA,Mq,hw,Bh,txR,hlt]
 ·have:j=64:=by omega
  subst this;rw[if_neg (by omega),AM];simp
theorem Oz {α:Type} {l:List α} {k:Nat} {x:α} (h:l[k]?=some x):l.take (k+1)=l.take k++[x]:=by rw[AUE,h];rfl
def tfs (i:Nat):List Bool:=(List.range 6).map λj=>decide (j <i)
def L1 (i:Nat):List Int:=DF.getD i []
def I8 (i:Nat) (bs:List Bool):List Bool:=(L1 i).foldl (λb p=>upP i b p.toNat) (bs.set (i*64+i) true)
theorem tG (i:Nat) (bs:List Bool) (p:Nat):(upP i bs p).length=bs.length:=MF _ _ _ _
theorem KD (i:Nat):∀(ps:List Int) (bs:List Bool),(ps.foldl (λb p=>upP i b p.toNat) bs).length=bs.length
 |[],_=>rfl
 |p::ps,bs=>by rw[AVB,KD i ps,tG]
theorem VQ (i:Nat) (bs:List Bool):(I8 i bs).length=bs.length:=by rw[I8,KD,AUr]
theorem SQ (i:Nat):(tfs i).length=6:=by simp[tfs]
theorem SR (i p:Nat) (hp:p <6):(tfs i)[p]?=some (decide (p <i)):=by simp[tfs,hp]
theorem tH (i:Nat) (hi:i <6):(tfs i).set i true=tfs (i+1):=by
 have:∀i <6,(tfs i).set i true=tfs (i+1):=by decide
 exact this i hi
theorem SY (l:List Bool) (i:Nat) (v:Bool) (hi:i <l.length):AO (l.map bv) i [bv v]=(l.set i v).map bv:=by
 rw[AO,List.map_set,AV2,if_pos (by simpa using hi)];simp
theorem AIW (bs op:List Bool) (i p:Nat) (hp:p <i) (hi:i≤6):FX 211 [.v (.int .i64 p),.ref 4 0,.ref 5 0,.ref 1 0,.ref 6 0] (Bh bs (tfs i) op) [.v (.bool true)] (Bh bs (tfs i) op):=by
 refine AN AJt rfl ?_;have hl:=SQ i;have hp6:p <6:=by omega
 have hd:(tfs i)[p]?=some true:=by rw[SR i p hp6];simp[hp]
 have hp5:p≤5:=by omega
 have hp6':(p:Int) <6:=by omega
 generalize tfs i=dn at*;have hde:∀h,dn[p]'h=true:=λh=>(ATp.1 hd).2;simp only[AFt,AB,AA,AE,Q8,Q7,AQ,Bh];simp[hp6,hp6',hp5,hd,hde,hl,AB,AA,mR,AG,mS]
set_option maxHeartbeats 1000000 in
theorem AJH (i:Nat) (hi:i <6) (ps:List Int) (dn dn' B0:List Bool) (hB0:B0.length=4096) (hps:∀p∈ps,0≤p∧p.toNat <i) (hpn:ps.length≤2)
  (ha:∀bs (p:Nat),p <i→FX 211 [.v (.int .i64 p),.ref 4 0,.ref 5 0,.ref 1 0,.ref 6 0] (Bh bs dn dn') [.v (.bool true)] (Bh bs dn dn')):
  awp Tryz.prog GLx (.loop RC) (λe s=>e= .exit 0∧AH s.e 0= .v (.int .i64 i)∧AH s.e 1= .ref 4 0∧s.h=Bh (ps.foldl (λb p=>upP i b p.toNat) B0) dn dn')
   ⟨[(0,.v (.int .i64 i)),(1,.ref 4 0),(3,.ref 1 0),(4,.ref 6 0),(41,.v (AL .i64 ps)),(42,.v (.int .i64 ps.length)),(43,.v (.int .i64 0))],Bh B0 dn dn'⟩:=by
 have fl:∀k,((ps.take k).foldl (λb p=>upP i b p.toNat) B0).length=4096:=by
  intro k;rw[KD,hB0]
 refine Ac ps.length (λk=>⟨[(0,.v (.int .i64 i)),(1,.ref 4 0),(3,.ref 1 0),(4,.ref 6 0),(41,.v (AL .i64 ps)),(42,.v (.int .i64 ps.length)),(43,.v (.int .i64 k))],Bh ((ps.take k).foldl (λb p=>upP i b p.toNat) B0) dn dn'⟩) (by simp) ?_;intro k hk;have hBl:=fl k;simp only[RC,AB,AA,AF,AE,mN];simp[AL];by_cases hlt:k <ps.length
 ·obtain⟨p,hpk⟩:∃p,ps[k]?=some p:=⟨_,ATo hlt⟩;have hw:IntKind.i64.wrap ((k:Int)+1)=k+1:=AJ;obtain⟨hp0,hpi⟩:=hps p (ATq hpk);obtain⟨q,rfl⟩:∃q:Nat,p=q:=⟨p.toNat,by omega⟩;have hqi:q <i:=by omega
  have hsuc:(ps.take (k+1)).foldl (λb p=>upP i b p.toNat) B0=upP i ((ps.take k).foldl (λb p=>upP i b p.toNat) B0) q:=by
   rw[Oz hpk,AVf,AVB,List.foldl_nil,AVe]
  rw[hsuc];generalize (ps.take k).foldl (λb p=>upP i b p.toNat) B0=B at*;have hc:=ha B q hqi;have hq64:(q:Int) <64:=by omega
  have hq63:q≤63:=by omega
  have hsl:((B.drop (q*64)).take 64).length=64:=by rw[AUI,List.length_drop];omega
  have q2:=ARL i hi B dn dn' ((B.drop (q*64)).take 64) hBl hsl (.v (AL .i64 ps)) (.v (.int .i64 ps.length)) (.v (.int .i64 k));have hup:upP i B q=inJ i ((B.drop (q*64)).take 64) 64 B:=by rw[upP]
  rw[←hup]at q2;generalize upP i B q=NB at*;clear hup;have hld:List.take 64 (List.drop (q*64) (List.map bv B))=((B.drop (q*64)).take 64).map bv:=by rw[AUM,AV8]
  have hcp:∀l:List Bool,List.map (D.copy ∘ bv) l=l.map bv:=λl=>by simp[AWF,D.copy]
  have hle:1+q*64≤4033:=by omega
  have hdr:∀(x:D) (l:List D),List.drop (1+q*64) (x::l)=List.drop (q*64) l:=λx l=>by rw[Nat.add_comm];rfl
  rw[if_pos (by omega),AD];simp only[AA,mM];simp[hpk,mL,Bh];simp only[Bh]at hc;refine⟨_,_,hc,?_⟩;simp[AD,UB,txR,hq64,hq63,hBl,hle,hdr,hcp];simp only[Bh,txR,AL]at q2;simp only[AUM,AV8]at q2;refine AX _ ?_ q2;rintro e ⟨se,sh⟩ ⟨rfl,f0,f1,f3,f4,f41,f42,f43,hh⟩;simp only at f0 f1 f3 f4 f41 f42 f43 hh;subst hh;simp[T7,f0,f1,f3,f4,f41,f42,f43,hw,hlt]
 ·have:k=ps.length:=by omega
  subst this;rw[if_neg (by omega),AM];simp
theorem AQN (bs:List Bool) (i:Nat) (hi:i <6) (hbs:bs.length=4096):FX 211 [.v (.int .i64 i),.ref 4 0,.ref 5 0,.ref 1 0,.ref 6 0] (Bh bs (tfs i) (tfs i)) [.v (.bool true)] (Bh (I8 i bs) (tfs (i+1)) (tfs (i+1))):=by
 refine AN AJt rfl ?_;have hl:=SQ i;have hd:(tfs i)[i]?=some false:=by rw[SR i i hi];simp
 have hi5:i≤5:=by omega
 have hi6':(i:Int) <6:=by omega
 have hset:=SY (tfs i) i true (by omega);rw[tH i hi]at hset;have ha:=λbs p hp=>AIW bs (tfs (i+1)) i p hp (by omega);have hpar:DF[i]?=some (L1 i):=by
  have:∀i <6,DF[i]?=some (L1 i):=by decide
  exact this i hi
 have hps:∀p∈L1 i,0≤p∧p.toNat <i:=by
  have:∀i <6,∀p∈L1 i,0≤p∧p.toNat <i:=by decide
  exact this i hi
 have hpn:(L1 i).length≤2:=by
  have:∀i <6,(L1 i).length≤2:=by decide
  exact this i hi
 have hres:I8 i bs=(L1 i).foldl (λb p=>upP i b p.toNat) (bs.set (i*64+i) true):=rfl;generalize I8 i bs=FB at*;generalize L1 i=ps at*;generalize tfs (i+1)=dn' at*;generalize tfs i=dn at*;have r0:AO (Ft::bs.map bv) (1+i*64+i) [bv true]=Ft::(bs.set (i*64+i) true).map bv:=by
  rw[show 1+i*64+i=(i*64+i)+1 by omega,AO];have:=SY bs (i*64+i) true (by omega);rw[AO]at this;simpa using this
 have hi64:i≤63:=by omega
 have hi64':(i:Int) <64:=by omega
 have hle:1+i*64+i+1≤bs.length+1:=by omega
 simp only[AFt,AB,AA,AE,Q8,Q7,AQ,Bh];simp[hi5,hi6',hd,hl,AD,mQ];simp[hset,mP,txR,hi64,hi64',r0,hle];have hpl:DF.length=6:=rfl;simp[mO,Ft,hpar,hpl,hi6',hi5,AL];have q:=AJH i hi ps dn dn' (bs.set (i*64+i) true) (by rw[AUr,hbs]) hps hpn ha;rw[←hres]at q;simp[Bh,txR,Ft,AL]at q;simp only[AF];refine AX _ ?_ q;rintro e ⟨se,sh⟩ ⟨rfl,f0,f1,hh⟩;simp only at f0 f1 hh;subst hh;simp[T6,f0,f1,hi6',hi5,hl,hset,T5,AG,mS]
def Ol:AC:=match vS with| .seq _ (.seq a _)=>a|_=> .skip
def ABw:AC:=match vS with| .seq _ (.seq _ b)=>b|_=> .skip
theorem vR:vS= .seq (.reg Ru [1]) (.seq Ol ABw):=rfl
def Vw:AT:=match Ol with| .regA _ _ _ t=>t|_=> .done
def AKS:List (List Nat):=match Ol with| .regA _ _ c _=>c|_=>[]
theorem ry:Ol= .regA Rt [1,3,4] AKS Vw:=rfl
def Nv (rest:List D):Option (List St):=evT (ev Tb Pr0 4) [] Rt Vw ⟨[(1,.ref 1 0)],[.cells (Ft::rest),.cells [.ref 0 0]]⟩
theorem AIh (rest:List D):Nv rest=(Nv []).map (List.map λo=>⟨o.e,o.h.set 0 (.cells (Ft::rest))⟩):=by kernel_rfl
def F6:Row:= .cells ((tfs 0).map bv)
def ADK:St:=⟨[(1,.ref 1 0),(3,.ref 4 0),(4,.ref 5 0)],[.cells [Ft],.cells [.ref 0 0],F6,F6,.cells [.sref 2 6],.cells [.sref 3 6]]⟩
def Jw (o:St):List (Nat×Nat):=
 match AH o.e 3,AH o.e 4 with
 | .ref a _,.ref b _=>match o.h[a]?,o.h[b]? with
  |some (.cells [.sref u _]),some (.cells [.sref v _])=>[(a,4),(b,5),(u,2),(v,3)]
  |_,_=>[]
 |_,_=>[]
def XJ (o:St):Bool:=
 decide (o.h.length=6)&&Jx 2 6 (Jw o)&&LL o.h&&decide (rnm (Bi (Jw o)) 0=0)&&((List.range 6).all λi=>decide (i=0)|| !decide (rnm (Bi (Jw o)) i=0))&&
  OP [1,3,4] (SV (Jw o) o) ADK
theorem WP:(match Nv []with|some os=>os.all XJ|none=>false)=true:=by kernel_rfl
theorem ACc (π:List (Nat×Nat)) (bs:List Bool):Row.ren π (.cells (Ft::bs.map bv))= .cells (Ft::bs.map bv):=by
 simp[Row.ren,CI,Ft,D.ren,AWF]
theorem Np (π:List (Nat×Nat)) (h:List Row) (X:Row) (hX:X.ren π=X) (hl:h.length=6) (h0:rnm (Bi π) 0=0) (hi:∀i <6,i≠0→rnm (Bi π) i≠0):Aq π (h.set 0 X)=(Aq π h).set 0 X:=by
 refine AUa λi=>?_;simp only[Aq,AUr,hl,AT0];rcases AUD i 6 with hi6|hi6
 ·rw[AUo hi6];by_cases hz:i=0
  ·subst hz;rw[AUJ (by simp)];simp only[AUF,h0];rw[AUJ (by omega)];simp[hX]
  ·rw[AT5 (Ne.symm hz),AT0,AUo hi6];simp only[AUF];rw[AT5 (Ne.symm (hi i hi6 hz))]
 ·rw[AUO (by simpa using hi6),AUO (by simpa using hi6)];rfl
theorem ATl (bs:List Bool) (Q:AExit→St→Prop)
  (hQ:Q .normal ⟨[(1,.ref 1 0),(3,.ref 4 0),(4,.ref 5 0)],[txR bs,.cells [.ref 0 0],F6,F6,.cells [.sref 2 6],.cells [.sref 3 6]]⟩):
  awp Tryz.prog GLx Ol Q ⟨[(1,.ref 1 0)],[txR bs,.cells [.ref 0 0]]⟩:=by
 rw[ry,Bq];obtain⟨os,h0⟩:∃os,Nv []=some os:=by
  have h:=WP;cases ho:Nv []with
  |none=>rw[ho]at h;cases h
  |some os=>exact⟨os,rfl⟩
 have hchk:=WP;rw[h0]at hchk;have he:=AIh (bs.map bv);rw[h0,AUF]at he;obtain⟨-,hall⟩:=IZ (P:=Tryz.prog) (GL:=GLx) (PL Ou (λf args h x hx=>by cases hx) 4) Vw he ⟨λr hr=>by simp[Lp.has]at hr,by simp⟩;refine hall _ λo ho=>?_;obtain⟨o0,ho0,rfl⟩:=ATw.1 ho;have hc:=(AT4.1 hchk) o0 ho0;simp only[XJ,ATn,decide_eq_true_eq]at hc;obtain⟨⟨⟨⟨⟨c1,c2⟩,c3⟩,c4⟩,c5⟩,c6⟩:=hc;obtain⟨e1,e2⟩:=KH c6;have hi:∀i <6,i≠0→rnm (Bi (Jw o0)) i≠0:=by
  intro i hi hz;have:=(AT4.1 c5) i (AUC.2 hi);simpa[hz]using this
 have hr:=Np (Jw o0) o0.h (.cells (Ft::bs.map bv)) (ACc _ _) c1 c4 hi;simp only[SV]at e1 e2;rw[e2]at hr;refine A6 (K:=λs2=>Q .normal ⟨BL s2.e [1,3,4],s2.h⟩) (Jw o0) ?_ ?_ ?_
 ·simpa[c1,Lp.ins]using c2
 ·simp only[LL,AT4,Lp.ins]at c3 ⊢;intro r hr;rcases AUg hr with hr|rfl
  ·exact c3 r hr
  ·rfl
 ·simp only[Lp.ins];rw[hr,e1];exact hQ
def CQ:Nat→List Bool→List Bool
 |0,bs=>bs
 |i+1,bs=>I8 i (CQ i bs)
theorem IY (bs:List Bool):∀i,(CQ i bs).length=bs.length
 |0=>rfl
 |i+1=>by rw[CQ,VQ,IY bs i]
theorem rx:ABw=(.seq (.reg Rs [1,3,4,5]) (.seq (.reg Rr [1,5]) (.seq (.seq (.reg Rq [5,24,25]) (.block 0 (.loop NA))) (.seq (.reg M9 [2]) .ret)))):=rfl
theorem ARU (bs:List Bool) (hbs:bs.length=4096):
  awp Tryz.prog GLx (.loop NA) (λe s=>e= .exit 0∧s.h=Bh (CQ 6 bs) (tfs 6) (tfs 6))
   ⟨[(5,.ref 6 0),(24,.v (.int .i64 6)),(25,.v (.int .i64 0))],Bh bs (tfs 0) (tfs 0)⟩:=by
 refine Ac 6 (λi=>⟨[(5,.ref 6 0),(24,.v (.int .i64 6)),(25,.v (.int .i64 i))],Bh (CQ i bs) (tfs i) (tfs i)⟩) (by simp[CQ]) ?_;intro i hi;simp only[NA,AB,AA,AF,AE,rt];simp;by_cases hlt:i <6
 ·have hw:IntKind.i64.wrap ((i:Int)+1)=i+1:=AJ;have p1:=AQN (CQ i bs) i hlt (by rw[IY,hbs]);have hn:CQ (i+1) bs=I8 i (CQ i bs):=rfl;rw[hn];generalize I8 i (CQ i bs)=B2 at*;generalize CQ i bs=B at*;generalize tfs (i+1)=t2 at*;generalize tfs i=t1 at*;rw[if_pos (by omega),AD];simp only[AA,rq];simp[rp,Bh];simp only[Bh]at p1;refine⟨_,_,p1,?_⟩;simp[AD,ro,hw];omega
 ·have:i=6:=by omega
  subst this;rw[if_neg (by omega),AM];simp
theorem AQx (bs:List Bool) (hbs:bs.length=4096):FX 123 [.ref 0 0] [txR bs] [.v (.bool true)] (Bh (CQ 6 bs) (tfs 6) (tfs 6)):=by
 refine AN ATL rfl ?_;have q:=ARU bs hbs;generalize Bh (CQ 6 bs) (tfs 6) (tfs 6)=HH at*;rw[vR];simp only[AB,AA,Ru,AQ];simp;refine ATl bs _ ?_;rw[rx];simp only[AB,AA,AF,Rs];simp[Rr,AO,txR,Ft];simp[Rq,DF];simp only[Bh,txR,Ft,F6]at q ⊢;refine AX _ ?_ q;rintro e ⟨se,sh⟩ ⟨rfl,hh⟩;simp only at hh;subst hh;simp[M9,AG,ABx]
section
variable {P:Program} {GL:AV}
def Row.low (n:Nat):Row→Bool
 | .cells ds=>D.lts n ds
 | .map _ _ _=>true
 | .dead=>true
 | .obj _ _ _=>false
theorem Dn {n m:Nat} (h:n≤m):∀d:D,D.lt n d=true→D.lt m d=true:=by
 intro d;refine D.rec (motive_1:=λd=>D.lt n d=true→D.lt m d=true) (motive_2:=λl=>D.lts n l=true→D.lts m l=true) ?_ ?_ ?_ ?_ ?_ ?_ ?_ ?_ ?_ ?_ ?_ ?_ ?_ ?_ ?_ ?_ d
 all_goals simp only[D.lt,D.lts,decide_eq_true_eq,ATn,implies_true,true_implies,imp_self]
 all_goals first
  |(intros;omega)
  |(intro a b iha ihb hab;exact⟨iha hab.1,ihb hab.2⟩)
  |(intros;assumption)
  |skip
theorem Fm {μ:List Nat} {r n b:Nat} (h:μ[r]?=some b) (hr:r <n):(μ.take n)[r]?=some b:=by
 rw[AUH,if_pos hr];exact h
theorem EW {n:Nat}:∀ {ds:List D} {i:Nat} {d:D},D.lts n ds=true→ds[i]?=some d→D.lt n d=true
 |d::ds,i,x,h,hi=>by
  simp only[D.lts,ATn]at h;cases i with
  |zero=>simp at hi;subst hi;exact h.1
  |succ i=>exact EW h.2 (by simpa using hi)
theorem RepC.low {g:Gh} {μ:List Nat} {n:Nat} {d:D} {u:Value} (h:RepC g μ d u) (hl:D.lt n d=true):RepC g (μ.take n) d u:=by
 cases d<;>simp only[RepC]at h ⊢
 ·exact h
 ·obtain⟨b,hb,rfl⟩:=h;exact⟨b,Fm hb (by simpa[D.lt]using hl),rfl⟩
theorem RepE.low {g:Gh} {w:World} {μ:List Nat} {n:Nat} {d:D} {u:Value} (h:RepE g w μ d u) (hl:D.lt n d=true):RepE g w (μ.take n) d u:=by
 cases d<;>simp only[RepE]at h ⊢ <;>try exact h
 ·obtain⟨b,hb,rfl⟩:=h;exact⟨b,Fm hb (by simpa[D.lt]using hl),rfl⟩
 ·obtain⟨b,cap,hb,rfl,hn⟩:=h;exact⟨b,cap,Fm hb (by simpa[D.lt]using hl),rfl,hn⟩
 ·obtain⟨b,hb,rfl⟩:=h;exact⟨b,Fm hb (by simpa[D.lt]using hl),rfl⟩
 ·obtain⟨vs,rfl,h⟩:=h;exact⟨vs,rfl,h.1,λi x v hx hv=>(h.2 i x v hx hv).low (EW (by simpa[D.lt]using hl) hx)⟩
 ·obtain⟨vs,rfl,h⟩:=h;exact⟨vs,rfl,h.1,λi x v hx hv=>(h.2 i x v hx hv).low (EW (by simpa[D.lt]using hl) hx)⟩
 ·obtain⟨b,hb,rfl⟩:=h;exact⟨b,Fm hb (by simpa[D.lt]using hl),rfl⟩
theorem RepG.low {g:Gh} {w:World} {μ:List Nat} {n:Nat} {d:D} {u:Value} (h:RepG g w μ d u) (hl:D.lt n d=true):RepG g w (μ.take n) d u:=by
 cases d<;>simp only[RepG]at h ⊢ <;>first
  |exact h.low hl
  |(obtain⟨vs,rfl,h,h1,h2⟩:=h
    exact⟨vs,rfl,⟨h.1,λi x v hx hv=>(h.2 i x v hx hv).low (EW (by simpa[D.lt]using hl) hx)⟩,h1,h2⟩)
theorem RepD.low {g:Gh} {w:World} {μ:List Nat} {n:Nat} {d:D} {u:Value} (h:RepD g w μ d u) (hl:D.lt n d=true):RepD g w (μ.take n) d u:=by
 cases d<;>simp only[RepD]at h ⊢ <;>first
  |exact h.low hl
  |(obtain⟨vs,rfl,h⟩:=h
    exact⟨vs,rfl,h.1,λi x v hx hv=>(h.2 i x v hx hv).low (EW (by simpa[D.lt]using hl) hx)⟩)
theorem Inv.low {g:Gh} {w:World} {μ:List Nat} {t:Nat→D} {u:Nat→Value} {h J:List Row} {O:Nat→Prop} (hi:Inv g w μ t u (h++J) O) (ht:∀n,D.lt h.length (t n)=true) (hh:∀row∈h,Row.low h.length row=true):
  Inv g w (μ.take h.length) t u h O:=by
 have hμl:(μ.take h.length).length=h.length:=by have:=hi.len;simp at this ⊢;omega
 have Ba:∀ {r b:Nat},(μ.take h.length)[r]?=some b→r <h.length∧μ[r]?=some b:=by
  intro r b hb;rw[AUH]at hb;split at hb
  ·exact⟨‹_›,hb⟩
  ·cases hb
 have hblk:∀p b,blk t u h w (μ.take h.length) p=some b→blk t u (h++J) w μ p=some b:=by
  intro p b hp;cases p with
  |tmp n k=>exact hp
  |cell r k=>
   simp only[blk]at hp ⊢;by_cases hr:r <h.length
   ·have e1:Au (h++J) r k=Au h r k:=by simp only[Au,AUB hr]
    have e2:A0 w (μ.take h.length) r k=A0 w μ r k:=by simp only[A0,AUH,if_pos hr]
    rw[e1,←e2];exact hp
   ·simp only[Au,AUO (show h.length≤r by omega)]at hp;simp[AW]at hp
 refine⟨hi.agree,hi.olt,λn=>(hi.rep n).low (ht n),hμl,?_,?_,?_,λp q b hp hq=>hi.uniq p q b (hblk p b hp) (hblk q b hq),?_⟩
 ·intro r row b hr hb;obtain⟨hlt,hb⟩:=Ba hb;have hrow:=hi.rows r row b (by rw[AUB hlt];exact hr) hb;have hlow:=hh row (ATq hr);cases row with
  |cells ds=>
   obtain⟨vs,T,h1,h2,h3,h4⟩:=hrow;exact⟨vs,T,h1,⟨h2.1,λi x v hx hv=>(h2.2 i x v hx hv).low (EW hlow hx)⟩,h3,h4⟩
  |map es st ck=>exact hrow
  |obj tag p m=>simp[Row.low]at hlow
  |dead=>exact hrow
 ·intro r r' b hr hr';exact hi.nod r r' b (Ba hr).2 (Ba hr').2
 ·intro b hb;exact hi.mo b (AUU hb)
 ·intro p b hp;obtain⟨h1,h2⟩:=hi.sep p b (hblk p b hp);exact⟨λhm=>h1 (AUU hm),h2⟩
theorem WT {n:Nat} {d:D} (h:D.lt n d=true) (k:Nat):D.lt n (at0 .any d k)=true:=by
 simp only[at0];split
 ·exact h
 ·rfl
theorem D1 {n:Nat}:∀ {ds:List D},(∀d∈ds,D.lt n d=true)→D.lts n ds=true
 |[],_=>rfl
 |d::ds,h=>by simp only[D.lts,ATn];exact⟨h d (by simp),D1 λx hx=>h x (by simp[hx])⟩
theorem N4 {n:Nat} {ds:List D} (h:∀d∈ds,D.lt n d=true):D.lt n (BQ ds)=true:=by
 match ds with
 |[]=>rfl
 |[x]=>exact h x (by simp)
 |x::y::r=>simp only[BQ,D.lt];exact D1 h
theorem As {f n:Nat} {ac:AC} {rs:List AR} {args rets:List D} {h h':List Row} (hk:DT P GL f n ac rs=true) (hn:args.length=n) (hl:h.length≤h'.length)
  (hh:∀row∈h',Row.low h'.length row=true) (hr:∀d∈rets,D.lt h'.length d=true)
  (hw:awp P GL ac (λe s=>(match e with| .exit _=>False|_=>True)∧DW s rs=some rets∧∃J,s.h=h'++J) ⟨AQ args,h⟩):FSp P GL f args h rets h':=by
 obtain⟨h1,h2⟩:=KQ (rets:=rets) (h':=h') hk hn (AX ac (λe s=>by
  rintro⟨h1,h2,J,h3⟩;refine⟨h1,rets,h2,λg w μ v O hi=>⟨μ.take h'.length,λμ0 hμ0 ⟨tl,hp⟩=>?_,?_⟩⟩
  ·subst hp;rw[List.take_append,AUG (by omega)];exact AUj _ _
  ·rw[h3]at hi;exact hi.low (WT (N4 hr)) hh) hw)
 refine⟨h1,λg w μ us O hinv hgl hall htame=>h2 g w μ us O hall.1 (hinv.enter (λn=>?_) (λn k=>?_)) hgl⟩
 ·simp only[atL];cases hx:args[n]? with
  |none=>simp[RepD,RepG,RepE]
  |some x=>
   obtain⟨v,hv,hr⟩:=hall.get hx;rw[hv];exact hr.toD
 ·simp only[atL];cases hx:args[n]? with
  |none=>cases k<;>simp[AZ,AW]
  |some x=>
   obtain⟨v,hv,hr⟩:=hall.get hx;rw[hv];exact Eo hr (htame n x v hx hv) k
end
def b01 (b:Bool):Int:=if b then 1 else 0
def Ct (x:Ivl):List Int:=BF [x.ln,x.ld,x.hn,x.hd,b01 x.lo,b01 x.ho,b01 x.li,b01 x.hi]
def Cg (f:F):List Int:=Ag f.op++(Ag f.n++(Ag f.ins.length++(f.ins.flatMap Ct++Ag f.kids.length)))
def B9 (f:F):List Int:=f.nodes.flatMap Cg
theorem tW (b:Bool):PX 295 [.bool b] [.int .i64 (b01 b)]:=by
 refine AK ARx rfl ?_;cases b<;>simp[AMt,awp,dD,c8,c7,cz,AAS,AY,b01]
theorem FR:∀(xs:List Int),(∀x∈xs,0≤x∧x <256)→D7 (xs.map (V.int .u8))=some (xs.map λn=>UInt8.ofNat n.toNat)
 |[],_=>rfl
 |x::xs,h=>by
  have:=FR xs λy hy=>h y (by simp[hy]);simp only[ATz,D7];rw[if_pos (h x (by simp)),this];rfl
theorem p99 (xs:List Int) (hx:∀x∈xs,0≤x∧x <256) (hb:xs.length≤2^40) (h:List Row) (r:Nat) (ys:List Int) (hr:h[r]?=some (wr ys)) (hl:ys.length≤2^45):FX 99 [.ref r 0,.v (AL .u8 xs)] h [] (h.set r (wr (ys++BI xs))):=by
 refine AN k99 rfl ?_;obtain⟨b,hb1,hb2⟩:∃b:ByteArray,D7 (xs.map (V.int .u8))=some b.data.toList∧Ai b=xs:=by
  refine⟨⟨(xs.map λn=>UInt8.ofNat n.toNat).toArray⟩,by rw[FR xs hx],?_⟩;simp only[Ai,AVN];conv=>rhs;rw[←List.map_id xs]
  refine AWW λn hn=>?_;obtain⟨h1,h2⟩:=hx n hn;simp only[Function.comp,id];rw[UInt8.toNat_ofNat_of_lt' (by simp[UInt8.size];omega)];omega
 have hsz:b.size=xs.length:=by rw[←JH,hb2]
 simp[c99,awp,wb,ADa,AQ,AL,hb1];have hp:=AQS b (by omega) h r ys hr hl;rw[hb2]at hp;exact⟨_,hp⟩
theorem vV (b:Bool):i64 (b01 b):=by cases b<;>(unfold i64 b01;simp)
theorem Gl {α:Type} (l:List α) (f:α→List Int) (k:Nat):((l.take k).flatMap f).length≤(l.flatMap f).length:=by
 have:=congrArg (λl=>(List.flatMap f l).length) (AUe k l);simp only[AVd,ATr]at this;omega
theorem MJ {α:Type} {l:List α} {f:α→List Int} {x:α} (h:x∈l):(f x).length≤(l.flatMap f).length:=by
 induction l with
 |nil=>cases h
 |cons y l ih=>
  rw[AT8,ATr];cases h with
  |head=>omega
  |tail _ h=>have:=ih h;omega
def Cd (l:List Int) (k:Nat):Int:=match k with|0=> -1|j+1=>l.getD j 0
def CG (l:List Int) (i:Int) (k:Nat):Bool:=decide (l.getD k 0≤Cd l k∨i≤l.getD k 0)
def DJ (l:List Int) (i:Int):Bool:= !(List.range l.length).any (CG l i)
theorem AP1 (l:List Int) (i:Int) (hn:l.length≤2^40):PX 241 [AL .i64 l,.int .i64 i] [.bool (DJ l i)]:=by
 refine AK ASV rfl ?_;simp only[ANU,AB,AA,AF,jb,ja,jZ,AY];simp[AL];refine BK l.length (λk=>⟨[(1,.v (.int .i64 i)),(5,.v (.int .i64 (Cd l k))),(8,.v (AL .i64 l)),(9,.v (.int .i64 l.length)),(10,.v (.int .i64 k))],[]⟩) (λk=>∀j <k,CG l i j=false) (by simp[AL,Cd]) (by omega) ?_;intro k hk hI;simp only[jc,AB,AA,AF,AE,jY];simp[AL];by_cases h1:k <l.length
 ·obtain⟨x,hx⟩:∃x,l[k]?=some x:=⟨_,ATo h1⟩;have hw:IntKind.i64.wrap ((k:Int)+1)=k+1:=AJ;have hb:CG l i k=decide (x≤Cd l k∨i≤x):=by unfold CG;simp[List.getD,hx]
  have hlast:Cd l (k+1)=x:=by simp[Cd,List.getD,hx]
  rw[if_pos (by omega),AD];simp only[AA,jX,jW];simp[hx];by_cases b1:x≤Cd l k
  ·have hbt:CG l i k=true:=by rw[hb];simp[b1]
   simp[b1,AB,AA,AG,Qz,To];unfold DJ;rw[Ec h1 hbt];rfl
  ·by_cases b2:i≤x
   ·have hbt:CG l i k=true:=by rw[hb];simp[b2]
    simp[b1,b2,AB,AA,AG,Qz,To];unfold DJ;rw[Ec h1 hbt];rfl
   ·have hbf:CG l i k=false:=by rw[hb];simp;omega
    simp[b1,b2,AD,AA,jV,jU,hw,h1,hlast];intro j hj;rcases AUD j k with h|h
    ·exact hI j h
    ·have:j=k:=by omega
     subst this;exact hbf
 ·have hk2:k=l.length:=by omega
  subst hk2;rw[if_neg (by omega),AM];simp[AA,AG,AB,jT,To];unfold DJ;rw[GD hI];rfl
theorem AQM (l:List Int) (i:Int) (hn:l.length≤2^40):PX 213 [AL .i64 l,.int .i64 i] [.bool (DJ l i)]:=by
 refine AK ASi rfl ?_;simp only[ANl,AB,AA,AF,mD,mC,AY];simp[AL];refine BK l.length (λk=>⟨[(0,.v (AL .i64 l)),(1,.v (.int .i64 i)),(5,.v (.int .i64 k))],[]⟩) (λk=>∀j <k,CG l i j=false) (by simp[AL]) (by omega) ?_;intro k hk hI;have hge: -1≤Cd l k:=by
  have:∀k,(∀j <k,CG l i j=false)→ -1≤Cd l k:=by
   intro k;induction k with
   |zero=>intro _;simp[Cd]
   |succ j ih=>
    intro h;have h1:=ih λj' h'=>h j' (by omega);have h2:=h j (by omega);unfold CG at h2;simp at h2;have e:Cd l (j+1)=l.getD j 0:=rfl;rw[e];simp only[AWV]at *;omega
  exact this k hI
 simp only[mE,AB,AA,Aa,AF,AE,mB];simp[AL];by_cases h1:k <l.length
 ·obtain⟨x,hx⟩:∃x,l[k]?=some x:=⟨_,ATo h1⟩;have hw:IntKind.i64.wrap ((k:Int)+1)=k+1:=AJ;have hb:CG l i k=decide (x≤Cd l k∨i≤x):=by unfold CG;simp[List.getD,hx]
  have hbad:CG l i k=true→DJ l i=false:=by intro h;unfold DJ;rw[Ec h1 h];rfl
  have hgood:CG l i k=false→∀j <k+1,CG l i j=false:=by
   intro hbf j hj;rcases AUD j k with h|h
   ·exact hI j h
   ·have:j=k:=by omega
    subst this;exact hbf
  rw[if_pos (by omega),AD];simp only[Aa,mA];by_cases b1:x <0
  ·have hbt:CG l i k=true:=by rw[hb];simp;omega
   simp[hx,b1,AB,AA,AG,Mn,Oi,hbad hbt]
  ·by_cases b2:i≤x
   ·have hbt:CG l i k=true:=by rw[hb];simp[b2]
    simp[hx,b1,b2,AB,AA,AG,Mn,Oi,hbad hbt]
   ·cases k with
    |zero=>
     have hbf:CG l i 0=false:=by
      have e:Cd l 0= -1:=rfl;rw[hb,e];simp;omega
     have hx2:l[0]=x:=(ATp.1 hx).2;simp at hw;simp[hx,hx2,b1,b2,AD,AA,Q6,hw,h1];exact hbf
    |succ j=>
     obtain⟨y,hy⟩:∃y,l[j]?=some y:=⟨_,ATo (by omega)⟩;have hw2:IntKind.i64.wrap (j:Int)=j:=AJ;have hl:Cd l (j+1)=y:=by simp[Cd,List.getD,hy]
     have hx2:l[j+1]=x:=(ATp.1 hx).2;have h9:(0:Int) <(j:Int)+1:=by omega
     have h10:(0:Int)≤(j:Int)+1:=by omega
     by_cases b3:x≤y
     ·have hbt:CG l i (j+1)=true:=by rw[hb,hl];simp[b3]
      simp[b1,b2,h9,h10,hw2,hx,hx2,hy,b3,AB,AA,AG,Mn,Oi,hbad hbt]
     ·have hbf:CG l i (j+1)=false:=by rw[hb,hl];simp;omega
      simp at hw;simp[b1,b2,h9,h10,hw2,hx,hx2,hy,b3,AD,AA,Q6,hw,h1];exact hgood hbf
 ·have hk2:k=l.length:=by omega
  subst hk2;rw[if_neg (by omega),AM];simp[AA,AG,AB,l0,Oi];unfold DJ;rw[GD hI];rfl
structure Clm where
 refs:List Int
 body:F
def Clm.V (c:Clm):V:= .agg [AL .i64 c.refs,.int .i64 c.body.op,.int .i64 c.body.n,.list (c.body.ins.map Ivl.V),.list (c.body.kids.map F.V)]
def Clm.ok (c:Clm):Prop:=(∀n∈c.refs,i64 n)∧c.refs.length≤2^40∧c.body.ok
theorem F.V_flds (f:F):f.V= .agg [.int .i64 f.op,.int .i64 f.n,.list (f.ins.map Ivl.V),.list (f.kids.map F.V)]:=by cases f;rw[F.V_eq];rfl
def Ee (e:Nat→Int):Nat→Nat→Int
 |_,0=>0
 |k,m+1=>if e k≠0 then e k else Ee e (k+1) m
theorem Ea {e:Nat→Int}:∀(m k:Nat),(∀j,k≤j→j <k+m→e j=0)→Ee e k m=0
 |0,_,_=>rfl
 |m+1,k,h=>by
  simp only[Ee,h k (by omega) (by omega)];simpa using Ea m (k+1) λj h1 h2=>h j (by omega) (by omega)
theorem GU {e:Nat→Int}:∀(m k i:Nat),k≤i→i <k+m→(∀j,k≤j→j <i→e j=0)→e i≠0→Ee e k m=e i
 |0,k,i,h1,h2,_,_=>by omega
 |m+1,k,i,h1,h2,h,hi=>by
  by_cases hk:k=i
  ·subst hk;simp only[Ee,if_pos hi]
  ·simp only[Ee,h k (by omega) (by omega)];simpa using GU m (k+1) i (by omega) (by omega) (λj h3 h4=>h j (by omega) h4) hi
def KO (c:Clm) (k:Nat):Int:=if c.refs.length>8 then 4 else if DJ c.refs k then BH c.body else 1
def Hs (l:List Clm) (k:Nat):Int:=match l[k]? with|none=>0|some c=>KO c k
def CL (l:List Clm):Int:=if l.length>32 then 4 else Ee (Hs l) 0 l.length
theorem ACm (l:List Clm) (hl:∀c∈l,c.ok) (hn:l.length≤2^40):PX 138 [.list (l.map Clm.V)] [.int .i64 (CL l)]:=by
 refine AK AJ6 rfl ?_;obtain⟨R,hR⟩:∃R,CL l=R:=⟨_,rfl⟩;rw[hR];unfold CL at hR;simp only[AHK,AB,AA,AF,AE,qS,qR,AY];simp;by_cases h32:32 <l.length
 ·have h32':32 <(l.length:Int):=by omega
  simp[h32]at hR;simp[h32',AB,AA,AG,qQ,Kc,hR]
 ·have h32':¬32 <(l.length:Int):=by omega
  simp only[gt_iff_lt,h32,if_false]at hR;simp[h32',AD,AA,qP];refine Ae l.length (λk s=>s.e=[(9,.v (.list (l.map Clm.V))),(10,.v (.int .i64 l.length)),(11,.v (.int .i64 k))]∧∀j <k,Hs l j=0) ⟨rfl,by omega⟩ ?_;rintro k ⟨se,sh⟩ hk ⟨he,hI⟩;simp only at he;subst he;simp only[qT,AB,AA,AF,AE,qO];simp;by_cases h1:k <l.length
  ·obtain⟨x,hx⟩:∃x,l[k]?=some x:=⟨_,ATo h1⟩;obtain⟨o1,o2,o3⟩:=hl x (ATq hx);have hw:IntKind.i64.wrap ((k:Int)+1)=k+1:=AJ;have hat:Hs l k=KO x k:=by unfold Hs;rw[hx]
   have hbad:KO x k≠0→R=KO x k:=λh=>by rw[←hR,GU l.length 0 k (by omega) (by omega) (λj _ h3=>hI j h3) (by rw[hat];exact h),hat]
   have p1:=(AP1 x.refs k o2).fsp;have p2:=(p66 x.body o3).fsp;rw[F.V_flds]at p2;unfold KO at hbad hat;rw[if_pos (by omega),AD];simp only[AA,qN,qM];simp[hx,Clm.V,AL,AO];simp[AL]at p1 p2;by_cases b1:8 <x.refs.length
   ·have b1':8 <(x.refs.length:Int):=by omega
    simp[b1]at hbad;simp[b1',AB,AA,AG,qL,Kc,hbad]
   ·have b1':¬8 <(x.refs.length:Int):=by omega
    simp only[gt_iff_lt,b1,if_false]at hbad hat;simp[b1',AB,AA,AE,qK];refine⟨_,_,p1 _,?_⟩;cases hr:DJ x.refs k with
    |false=>
     simp[hr]at hbad;simp[AE,AB,AA,AG,qJ,Kc,hbad]
    |true=>
     simp[hr]at hbad hat;simp[AE,AD,AB,AA,Ug];refine⟨_,_,p2 _,?_⟩;by_cases b2:BH x.body=0
     ·rw[b2]at hat;simp[b2,M2,AE,AD,AA,Ue,hw,h1];intro j hj;rcases AUD j k with h|h
      ·exact hI j h
      ·have:j=k:=by omega
       subst this;exact hat
     ·simp[b2,M2,AE,AB,AA,AG,Uf,Kc,hbad b2]
  ·have hk2:k=l.length:=by omega
   subst hk2;rw[if_neg (by omega),AM];rw[Ea _ _ (λj _ h3=>hI j (by omega))]at hR;simp[AA,AG,AB,Ud,Kc,hR]
theorem AQv (l:List Clm) (hl:∀c∈l,c.ok) (hn:l.length≤2^40):PX 126 [.list (l.map Clm.V)] [.int .i64 (CL l)]:=by
 refine AK ATI rfl ?_;obtain⟨R,hR⟩:∃R,CL l=R:=⟨_,rfl⟩;rw[hR];unfold CL at hR;simp only[AOt,AB,AA,AF,AE,rb,ra,AY];simp;by_cases h32:32 <l.length
 ·have h32':32 <(l.length:Int):=by omega
  simp[h32]at hR;simp[h32',AB,AA,AG,rZ,Lg,hR]
 ·have h32':¬32 <(l.length:Int):=by omega
  simp only[gt_iff_lt,h32,if_false]at hR;simp[h32',AD,AA,rY];refine BK l.length (λk=>⟨[(0,.v (.list (l.map Clm.V))),(3,.v (.int .i64 k))],[]⟩) (λk=>∀j <k,Hs l j=0) rfl (by omega) ?_;intro k hk hI;simp only[rc,AB,AA,AF,AE,rX];simp;by_cases h1:k <l.length
  ·obtain⟨x,hx⟩:∃x,l[k]?=some x:=⟨_,ATo h1⟩;obtain⟨o1,o2,o3⟩:=hl x (ATq hx);have hw:IntKind.i64.wrap ((k:Int)+1)=k+1:=AJ;have hat:Hs l k=KO x k:=by unfold Hs;rw[hx]
   have hbad:KO x k≠0→R=KO x k:=λh=>by rw[←hR,GU l.length 0 k (by omega) (by omega) (λj _ h3=>hI j h3) (by rw[hat];exact h),hat]
   have p1:=(AQM x.refs k o2).fsp;have p2:=(AQL x.body o3).fsp;rw[F.V_flds]at p2;unfold KO at hbad hat;rw[if_pos (by omega),AD];simp only[AA,rV];simp[hx,Clm.V,AL,AO];simp[AL]at p1 p2;by_cases b1:8 <x.refs.length
   ·have b1':8 <(x.refs.length:Int):=by omega
    simp[b1]at hbad;simp[b1',AB,AA,AG,rU,Lg,hbad]
   ·have b1':¬8 <(x.refs.length:Int):=by omega
    simp only[gt_iff_lt,b1,if_false]at hbad hat;simp[b1',hx,Clm.V,AL,AD,AB,AA,AE,rT];refine⟨_,_,p1 _,?_⟩;cases hr:DJ x.refs k with
    |false=>
     simp[hr]at hbad;simp[AE,AB,AA,AG,rS,Lg,hbad]
    |true=>
     simp[hr]at hbad hat;simp[hx,Clm.V,AL,AE,AD,AB,AA,Us];refine⟨_,_,p2 _,?_⟩;by_cases b2:BH x.body=0
     ·rw[b2]at hat;simp[b2,M6,AE,AD,AA,rW,hw,h1];intro j hj;rcases AUD j k with h|h
      ·exact hI j h
      ·have:j=k:=by omega
       subst this;exact hat
     ·simp[b2,M6,AE,AB,AA,AG,Ur,Lg,hbad b2]
  ·have hk2:k=l.length:=by omega
   subst hk2;rw[if_neg (by omega),AM];rw[Ea _ _ (λj _ h3=>hI j (by omega))]at hR;simp[AA,AG,AB,Uq,Lg,hR]
def BT (c:Clm):List Int:=BF c.refs++BI (B9 c.body)
def BJ (l:List Clm):List Int:=Ag l.length++l.flatMap BT
structure Dat where
 cl:Int
 ix:Int
 day:Int
 file:Int
structure Own where
 party:Int
 num:Int
 den:Int
structure Lic where
 fr:Int
 to:Int
 fst:Int
 lst:Int
structure Rgt where
 file:Int
 state:Int
 force:Int
 claims:List Clm
 dates:List Dat
 bad:List Int
 owners:List Own
 lics:List Lic
def Dat.V (d:Dat):V:= .agg [.int .i64 d.cl,.int .i64 d.ix,.int .i64 d.day,.int .i64 d.file]
def Own.V (o:Own):V:= .agg [.int .i64 o.party,.int .i64 o.num,.int .i64 o.den]
def Lic.V (h:Lic):V:= .agg [.int .i64 h.fr,.int .i64 h.to,.int .i64 h.fst,.int .i64 h.lst]
def Rgt.cs (r:Rgt):List V:=[.int .i64 r.file,.int .i64 r.state,.int .i64 r.force,.list (r.claims.map Clm.V),.list (r.dates.map Dat.V),AL .i64 r.bad,.list (r.owners.map Own.V),.list (r.lics.map Lic.V)]
def Rgt.V (r:Rgt):V:= .agg r.cs
def Dat.ok (d:Dat):Prop:=i64 d.cl∧i64 d.ix∧i64 d.day∧i64 d.file
def Own.ok (o:Own):Prop:=i64 o.party∧i64 o.num∧i64 o.den
def Lic.ok (h:Lic):Prop:=i64 h.fr∧i64 h.to∧i64 h.fst∧i64 h.lst
structure Rgt.ok (r:Rgt):Prop where
 file:i64 r.file
 state:i64 r.state
 force:i64 r.force
 claims:∀c∈r.claims,c.ok
 dates:∀d∈r.dates,d.ok
 bad:∀n∈r.bad,i64 n
 owners:∀o∈r.owners,o.ok
 lics:∀h∈r.lics,h.ok
 lc:r.claims.length≤2^30
 ld:r.dates.length≤2^30
 lb:r.bad.length≤2^30
 lo:r.owners.length≤2^30
 ll:r.lics.length≤2^30
 enc:(BJ r.claims).length≤2^39
def inI (n lo hi:Int):Bool:=decide (lo≤n∧n≤hi)
def Bz {α:Type} (f:α→α→Bool):List α→Bool
 |x::y::l=>f x y&&Bz f (y::l)
 |_=>true
def Fc (n:Nat) (d:Dat):Bool:=inI d.cl 0 (n-1)&&inI d.ix 0 63&&inI d.day 0 131072&&inI d.file 0 4095
def Fd (a b:Dat):Bool:=decide (a.cl <b.cl∨a.cl=b.cl∧a.ix <b.ix)
def EF (o:Own):Bool:=inI o.party 1 4095&&okR o.num o.den&&decide (0 <o.num∧o.num≤o.den)
def Fa (h:Lic):Bool:=inI h.fr 1 4095&&inI h.to 1 4095&&inI h.fst 0 h.lst&&decide (h.lst≤131072)
def At (r:Rgt):Bool:=
 inI r.file 0 4095&&inI r.state 0 4&&inI r.force 0 4&&CL r.claims==0&&decide (r.dates.length≤4096)&&decide (r.lics.length≤4096)&&
 (r.dates.all (Fc r.claims.length)&&Bz Fd r.dates)&&(r.bad.all (λi=>inI i 0 (r.claims.length-1))&&Bz (λa b=>decide (a <b)) r.bad)&&
 (r.owners.all EF&&Bz (λa b=>decide (a.party <b.party)) r.owners)&&r.lics.all Fa
def Bw (d:Dat):List Int:=Ag d.cl++Ag d.ix++Ag d.day++Ag d.file
def Bu (o:Own):List Int:=Ag o.party++Ag o.num++Ag o.den
def Bv (h:Lic):List Int:=Ag h.fr++Ag h.to++Ag h.fst++Ag h.lst
def Bx (r:Rgt):List Int:=
 Ag r.file++Ag r.state++Ag r.force++BI (BJ r.claims)++Ag r.dates.length++r.dates.flatMap Bw++BF r.bad++
 Ag r.owners.length++r.owners.flatMap Bu++Ag r.lics.length++r.lics.flatMap Bv
def A8 (a n:Int):Int:=if a <0 then (IntKind.i64.wrap (0-IntKind.i64.wrap (a+1))).tmod n else a.tmod n
theorem p11 (a n:Int) (hn:n≠0):PX 11 [.int .i64 a,.int .i64 n] [.int .i64 (A8 a n)]:=by
 refine AK k11 rfl ?_;unfold A8;by_cases h1:a <0<;>simp[c11,awp,AB3,AB2,AB1,AB0,AOy,AY,h1,hn]
def Ab (l:List Int) (i n:Int):Int:=if i <0 then 0 else match l[i.toNat]? with|some x=>A8 x n|none=>0
theorem p47 (l:List Int) (i n:Int) (hn:n≠0):PX 47 [AL .i64 l,.int .i64 i,.int .i64 n] [.int .i64 (Ab l i n)]:=by
 refine AK k47 rfl ?_;unfold Ab;by_cases h1:i <0
 ·simp[c47,awp,TI,TH,Zq,uP,AY,h1,AL]
 ·by_cases h2:(l.length:Int)≤i
  ·have:l[i.toNat]?=none:=by rw[List.getElem?_eq_none_iff];omega
   simp[c47,awp,TI,TH,Zq,uP,AY,h1,h2,AL,this]
  ·have hlt:i.toNat <l.length:=by omega
   have hx:l[i.toNat]?=some l[i.toNat]:=ATo hlt;have h0:0≤i:=by omega
   simp[c47,awp,TI,TH,zw,uP,AY,h1,h2,AL,hx,h0,V.cells,DR,D.norm,Ar,D.arg];refine⟨_,⟨_,(p11 l[i.toNat] n hn).fsp []⟩,?_⟩;simp[BQ]
def CS (k:Int):F:= .mk 1 ((IntKind.i64.wrap (k.tdiv 8)).tmod 6) [] []
def Ck (k:Int):F:= .mk 2 ((IntKind.i64.wrap (k.tdiv 8)).tmod 2) [⟨(IntKind.i64.wrap (k.tdiv 48)).tmod 4,1,
 IntKind.i64.wrap (IntKind.i64.wrap ((IntKind.i64.wrap (k.tdiv 48)).tmod 4+1)+(IntKind.i64.wrap (k.tdiv 192)).tmod 2),1,(IntKind.i64.wrap (k.tdiv 384)).tmod 2==1,false,false,false⟩] []
def Cs (n:Int):F:=
 let k:=A8 n 1048576
 if k.tmod 8=0∨k.tmod 8=1∨k.tmod 8=2 then CS k
 else if k.tmod 8=3∨k.tmod 8=4 then Ck k
 else if k.tmod 8=5 then .mk 4 0 [] [Ck k,CS k]
 else if k.tmod 8=6 then .mk 3 0 [] [CS k]
 else .mk 6 0 [] [CS k]
set_option maxHeartbeats 2000000 in
theorem AIV (n:Int):PX 212 [.int .i64 n] [(Cs n).V]:=by
 refine AK ASj rfl ?_;have p1:=(p11 n 1048576 (by decide)).fsp;unfold Cs CS Ck;generalize A8 n 1048576=k at*;simp at p1;simp only[ANm,AB,AA,AF,AE,mK,mJ,AY];simp;refine⟨_,_,p1 _,?_⟩;simp[mI,AO];simp[mH,AO];simp[mG,AO];simp[mF,AO];by_cases h0:k.tmod 8=0
 ·simp[FQ,FO,h0,AB,AD,AA,Jd,AO,AG,H9,F.V_eq]
 by_cases h1:k.tmod 8=1
 ·simp[FQ,FO,F9,h1,AB,AD,AA,AE,Jd,AO,AG,H9,F.V_eq]
 by_cases h2:k.tmod 8=2
 ·simp[FQ,FO,F9,G9,h2,AB,AD,AA,AE,Jd,AO,AG,H9,F.V_eq]
 by_cases h3:k.tmod 8=3
 ·simp[FQ,FO,F9,G9,GX,h3,AB,AD,AA,AE,Mp,AO,AG,H9,F.V_eq,Ivl.V]
 by_cases h4:k.tmod 8=4
 ·simp[FQ,FO,F9,G9,GX,H8,h4,AB,AD,AA,AE,Mp,AO,AG,H9,F.V_eq,Ivl.V]
 by_cases h5:k.tmod 8=5
 ·simp[FQ,FO,F9,G9,GX,H8,Jc,h5,AB,AD,AA,AE,T4,AO,AG,H9,F.V_eq,Ivl.V]
 by_cases h6:k.tmod 8=6
 ·simp[FQ,FO,F9,G9,GX,H8,Jc,Mo,h6,AB,AD,AA,AE,T3,AO,AG,H9,F.V_eq]
 simp[FQ,FO,F9,G9,GX,H8,Jc,Mo,h0,h1,h2,h3,h4,h5,h6,AB,AD,AA,AE,T2,AO,AG,H9,F.V_eq]
theorem Ew (a n:Int) (hn:0 <n): -n <A8 a n∧A8 a n <n:=by
 have key:∀b:Int,-n <b.tmod n∧b.tmod n <n:=λb=>by
  have h1:=AVg b hn;have h2:=AVg (-b) hn;rw[Int.neg_tmod]at h2;omega
 unfold A8;split<;>exact key _
theorem Dh (l:List Int) (i n:Int) (hn:0 <n): -n <Ab l i n∧Ab l i n <n:=by
 unfold Ab;split
 ·omega
 ·split
  ·exact Ew _ _ hn
  ·omega
def FK (l:List Int) (i:Nat):Clm:=
 let k:=Ab l (2*i+1) 1000
 let m:=Ab l (2*i+2) 1048576
 ⟨if i=2∧(IntKind.i64.wrap (k.tdiv 16)).tmod 4=0 then [0,1] else if 0 <i∧(IntKind.i64.wrap (k.tdiv 4)).tmod 2=0 then [(IntKind.i64.wrap (k.tdiv 8)).tmod i] else [],
  if k.tmod 4=0 then .mk 5 0 [] [Cs m,Cs (IntKind.i64.wrap (k.tdiv 4))] else Cs m⟩
def Gk (l:List Int):Nat:=(1+Ab l 0 3).toNat
def Bf (l:List Int):List Clm:=(List.range (Gk l)).map (FK l)
theorem HZ (l:List Int):Gk l≤3:=by have:=Dh l 0 3 (by decide);unfold Gk;omega
def rh:AC:=(.seq (.seq (.reg M8 [0,3,4,5,6,7,46]) (.cond (.t 46 false) (.reg M7 [0,3,4,5,6,7]) .skip)) (.seq (.seq (.reg D6 [0,3,4,5,7,60]) (.cond (.t 60 false) (.reg Je [0,3,4,5,7]) .skip)) (.reg D5 [0,3,4,5])))
def rm:AC:=(.seq (.reg Rl [0,3,4,5,6,7,30]) (.cond (.t 30 false) (.regD Rk [0,3,4,5,6,7] [[],[0],[],[2],[2,3],[0,1,2,3,4],[0,1,2,3,4,5],[0,1,2,3,4,5,6],[0,1,2,3,4,5,6,7]]) .skip))
theorem Vi:rn=(.seq (.seq (.reg Rp [0,3,4,5,13]) (.cond (.t 13 false) .skip (.exit 0))) (.seq (.block 1 (.seq (.reg Rn [0,3,4,5,6]) (.seq (.reg Rm [0,3,4,5,6,7]) (.seq rm rh)))) (.reg Ro [0,3,4,5]))):=rfl
def SW (i:Nat) (k:Int):List Int:=if i=2∧(IntKind.i64.wrap (k.tdiv 16)).tmod 4=0 then [0,1] else if 0 <i∧(IntKind.i64.wrap (k.tdiv 4)).tmod 2=0 then [(IntKind.i64.wrap (k.tdiv 8)).tmod i] else []
theorem AJN (i:Nat) (k:Int) (b:F) (d0 d4 dI:D) (hdI:dI.copy= .v (.list (b.ins.map Ivl.V))) (xs:List V) (J:List Row) (hi:i≤3) (hxs:xs.length≤3) (hh:CT 5 xs=true) (Q:AExit→St→Prop)
  (hQ:∀J',Q .normal ⟨[(0,d0),(3,.own 130 5 (xs++[Clm.V ⟨SW i k,b⟩])),(4,d4),(5,.v (.int .i64 i))],J'⟩):
  ∀e,AH e 0=d0→AH e 3= .own 130 5 xs→AH e 4=d4→AH e 5= .v (.int .i64 i)→AH e 6= .v (.int .i64 k)→AH e 7= .ref J.length 0→awp Tryz.prog GLx rh Q ⟨e,
   J++[.cells [.own 3 1 [],.v (.int .i64 b.op),.v (.int .i64 b.n),dI,.v (.list (b.kids.map F.V))]]⟩:=by
 simp only[D.copy]at hdI;intro e f0 f3 f4 f5 f6 f7;have hroom:Ah (xs.length+1) 88=true:=by simp[Ah];omega
 have hq:∀(refs:List Int) J',refs=SW i k→Q .normal ⟨[(0,d0),(3,.own 130 5 (xs++[V.agg [.list (refs.map (.int .i64)),.int .i64 b.op,.int .i64 b.n,.list (b.ins.map Ivl.V),.list (b.kids.map F.V)]])),(4,d4),(5,.v (.int .i64 i))],J'⟩:=by
  rintro refs J' rfl;exact hQ J'
 clear hQ;unfold SW at hq;unfold rh;simp only[AB,AA,AE,M8];simp[f0,f3,f4,f5,f6,f7];by_cases hi0:i=0
 ·subst hi0;simp[AD,D6,D5,hroom,hdI];exact hq [] _ (by simp)
 have hi1:0 <i:=by omega
 have hi1':(i:Int)≠0:=by omega
 by_cases h2:(IntKind.i64.wrap (k.tdiv 4)).tmod 2=0
 ·simp[hi1,h2,AA,M7,hi1',hi0];by_cases h3:i=2
  ·subst h3;by_cases h4:(IntKind.i64.wrap (k.tdiv 16)).tmod 4=0
   ·simp[D6,h4,AA,Je,D5,hroom,hdI];exact hq [0,1] _ (by simp[h4])
   ·simp[D6,h4,AD,D5,hroom,hdI];exact hq [(IntKind.i64.wrap (k.tdiv 8)).tmod 2] _ (by simp[h4,h2])
  ·have h3':¬(i:Int)=2:=by omega
   simp[D6,h3,h3',AD,D5,hroom,hdI];exact hq [(IntKind.i64.wrap (k.tdiv 8)).tmod i] _ (by simp[h3,h2,hi1])
 ·simp[hi1,h2,AD];by_cases h3:i=2
  ·subst h3;by_cases h4:(IntKind.i64.wrap (k.tdiv 16)).tmod 4=0
   ·simp[D6,h4,AA,Je,D5,hroom,hdI];exact hq [0,1] _ (by simp[h4])
   ·simp[D6,h4,AD,D5,hroom,hdI];exact hq [] _ (by simp[h4,h2])
  ·have h3':¬(i:Int)=2:=by omega
   simp[D6,h3,h3',AD,D5,hroom,hdI];exact hq [] _ (by simp[h3,h2])
theorem AJO (k:Int) (f g:F) (hg:PX 212 [.int .i64 (IntKind.i64.wrap (k.tdiv 4))] [g.V]) (d0 d4 d5:D) (xs:List V) (J:List Row) (Q:AExit→St→Prop)
  (hQ:∀(b:F) e (dI:D),dI.copy= .v (.list (b.ins.map Ivl.V))→b=(if k.tmod 4=0 then .mk 5 0 [] [f,g] else f)→AH e 0=d0→AH e 3= .own 130 5 xs→AH e 4=d4→AH e 5=d5→AH e 6= .v (.int .i64 k)→AH e 7= .ref J.length 0→Q .normal ⟨e,
   J++[.cells [.own 3 1 [],.v (.int .i64 b.op),.v (.int .i64 b.n),dI,.v (.list (b.kids.map F.V))]]⟩):
  awp Tryz.prog GLx rm Q ⟨[(0,d0),(3,.own 130 5 xs),(4,d4),(5,d5),(6,.v (.int .i64 k)),(7,.ref J.length 0)],
   J++[.cells [.own 3 1 [],.v (.int .i64 f.op),.v (.int .i64 f.n),.v (.list (f.ins.map Ivl.V)),.v (.list (f.kids.map F.V))]]⟩:=by
 unfold rm;simp only[AB,AA,AE,Rl];simp;by_cases h4:k.tmod 4=0
 ·rw[if_pos h4]at hQ ⊢;have hQ:=hQ _ [(0,d0),(3,.own 130 5 xs),(4,d4),(5,d5),(6,.v (.int .i64 k)),(7,.ref J.length 0)] (.own 368 8 []) rfl rfl rfl rfl rfl rfl rfl rfl;simp only[F.op,F.n,F.ins,F.kids,ATz,AVM]at hQ;rw[F.V_flds]at hg;rw[F.V_flds f,F.V_flds g]at hQ;simp only[Aa,Rk];simp;refine⟨_,_,⟨rfl,rfl⟩,_,hg,?_⟩;simp[AO];exact hQ
 ·rw[if_neg h4]at hQ ⊢;rw[AD];exact hQ f _ _ rfl rfl rfl rfl rfl rfl rfl rfl
theorem AQw (l:List Int):PX 124 [AL .i64 l] [.list ((Bf l).map Clm.V)]:=by
 refine AK ATK rfl ?_;have p1:=(p47 l 0 3 (by decide)).fsp;have hb:=Dh l 0 3 (by decide);have hm:Gk l=(1+Ab l 0 3).toNat:=rfl;have hm3:=HZ l;have w1:IntKind.i64.wrap (1+Ab l 0 3)=1+Ab l 0 3:=AJ;simp[AL]at p1;simp only[AOv,AB,AA,AF,rl,rk,rj,ri,AY];simp[AL];refine⟨_,_,p1 _,?_⟩;simp[w1];generalize 1+Ab l 0 3=M at*;refine Ae (Gk l) (λi s=>s.e=[(0,.v (AL .i64 l)),(3,.own 130 5 ((List.range i).map λj=>(FK l j).V)),(4,.v (.int .i64 M)),(5,.v (.int .i64 i))]) (by simp[AL]) ?_;rintro i ⟨se,J⟩ hi he;simp only at he;subst he;rw[Vi];simp only[AB,AA,AF,AE,Rp];simp[AL];by_cases hlt:i <Gk l
 ·have hlt':(i:Int) <M:=by omega
  have v1:IntKind.i64.wrap (2*(i:Int))=2*i:=AJ;have v2:IntKind.i64.wrap (2*(i:Int)+1)=2*i+1:=AJ;have v3:IntKind.i64.wrap (2*(i:Int)+2)=2*i+2:=AJ;have hw:IntKind.i64.wrap ((i:Int)+1)=i+1:=AJ;have p2:=(p47 l (2*i+1) 1000 (by decide)).fsp;have p3:=(p47 l (2*i+2) 1048576 (by decide)).fsp;have hcl:∀b,b=(if (Ab l (2*i+1) 1000).tmod 4=0 then F.mk 5 0 [] [Cs (Ab l (2*i+2) 1048576),Cs (IntKind.i64.wrap ((Ab l (2*i+1) 1000).tdiv 4))] else Cs (Ab l (2*i+2) 1048576))→(⟨SW i (Ab l (2*i+1) 1000),b⟩:Clm)=FK l i:=by
   rintro b rfl;rfl
  have p4:=(AIV (Ab l (2*i+2) 1048576)).fsp;have p5:=AIV (IntKind.i64.wrap ((Ab l (2*i+1) 1000).tdiv 4));generalize Ab l (2*i+1) 1000=k at*;generalize Ab l (2*i+2) 1048576=m at*;generalize Cs m=f at*;generalize Cs (IntKind.i64.wrap (k.tdiv 4))=g at*;rw[F.V_flds]at p4;simp[AL]at p2 p3 p4;rw[if_pos hlt',AD];simp only[AA,Rn];simp[v1,v2];refine⟨_,_,p2 _,?_⟩;simp[Rm,v1,v3];refine⟨_,_,p3 _,?_⟩;simp;refine⟨_,_,p4 _,?_⟩;simp[AO];refine AJO k f g p5 _ _ _ _ J _ ?_;intro b e dI hdI hbb f0 f3 f4 f5 f6 f7;simp only[];refine AJN i k b _ _ dI hdI _ J (by omega) (by simp;omega) ?_ _ ?_ e f0 f3 f4 f5 f6 f7
  ·cases i with
   |zero=>rfl
   |succ i=>simp[AV5,Clm.V]
  ·intro J';rw[hcl b hbb];simp[Ro,hw,hlt,AUk]
 ·have:i=Gk l:=by omega
  subst this;have hlt':¬((Gk l:Nat):Int) <M:=by omega
  rw[if_neg hlt',AM];simp[AA,AG,Ut,ABv,Bf,AL,AWF]
def VX (l:List Int) (i:Nat):Dat:=⟨i,(Ab l (4+i) 1000).tmod 3,IntKind.i64.wrap (36000+(Ab l (4+i) 1000).tmod 50),(Ab l (4+i) 1000).tmod 20⟩
def K3 (l:List Int) (i:Nat):Option Int:=if (Ab l (4+i) 1000).tmod 5=0 then some i else none
def WO (l:List Int) (i:Nat):Own:=⟨IntKind.i64.wrap (1+2*i+(Ab l (9+i) 1000).tmod 2),1,Ab l 8 3⟩
def MC (l:List Int) (i:Nat):Option Lic:=
 let k:=Ab l (9+i) 1000
 if k.tmod 3=0 then some ⟨IntKind.i64.wrap (1+k.tmod 5),IntKind.i64.wrap (2+k.tmod 7),k,IntKind.i64.wrap (k+IntKind.i64.wrap (k.tdiv 7))⟩ else none
def DV (l:List Int):Rgt:=
 ⟨Ab l 0 40,Ab l 1 5,if Ab l 2 3=0 then Ab l 3 5 else 0,Bf l,(List.range (Bf l).length).map (VX l),(List.range (Bf l).length).filterMap (K3 l),
  (List.range (Ab l 8 3).toNat).map (WO l),(List.range (Ab l 8 3).toNat).filterMap (MC l)⟩
theorem JD (l:List Int):(Bf l).length≤3:=by have:=HZ l;simpa[Bf]using this
def mkR (a b c:Int) (cl:List Clm) (ds:List Dat) (bad:List Int) (os:List Own) (ls:List Lic):Row:=
 .cells [.v (.int .i64 a),.v (.int .i64 b),.v (.int .i64 c),.v (.list (cl.map Clm.V)),.own 131 4 (ds.map Dat.V),.own 3 1 (bad.map (.int .i64)),.own 135 3 (os.map Own.V),.own 137 4 (ls.map Lic.V)]
theorem AIz (l:List Int) (a b c:Int) (cl:List Clm) (hcl:cl.length≤3) (R0:Row):
  awp Tryz.prog GLx (.loop TG) (λe s=>e= .exit 0∧AH s.e 0= .v (AL .i64 l)∧AH s.e 2= .ref 0 0∧AH s.e 3= .ref 1 0∧s.h=[R0,mkR a b c cl ((List.range cl.length).map (VX l)) ((List.range cl.length).filterMap (K3 l)) [] []])
   ⟨[(0,.v (AL .i64 l)),(2,.ref 0 0),(3,.ref 1 0),(4,.v (.int .i64 0))],[R0,mkR a b c cl [] [] [] []]⟩:=by
 refine Ac cl.length (λi=>⟨[(0,.v (AL .i64 l)),(2,.ref 0 0),(3,.ref 1 0),(4,.v (.int .i64 i))],[R0,mkR a b c cl ((List.range i).map (VX l)) ((List.range i).filterMap (K3 l)) [] []]⟩) (by simp) ?_;intro i hi;simp only[TG,AB,AA,AF,AE,zu];simp[mkR];by_cases hlt:i <cl.length
 ·have v1:IntKind.i64.wrap (4+(i:Int))=4+i:=AJ;have hw:IntKind.i64.wrap ((i:Int)+1)=i+1:=AJ;have p1:=(p47 l (4+i) 1000 (by decide)).fsp;have hlb:((List.range i).filterMap (K3 l)).length≤i:=by have:=AVh (K3 l) (List.range i);simpa using this
  have r1:Ah (i+1) 32=true:=by simp[Ah];omega
  have r2:Ah (((List.range i).filterMap (K3 l)).length+1) 8=true:=by simp[Ah];omega
  simp[AL]at p1;have hd:VX l i=⟨i,(Ab l (4+i) 1000).tmod 3,IntKind.i64.wrap (36000+(Ab l (4+i) 1000).tmod 50),(Ab l (4+i) 1000).tmod 20⟩:=rfl;have hb:K3 l i=if (Ab l (4+i) 1000).tmod 5=0 then some (i:Int) else none:=rfl;generalize Ab l (4+i) 1000=k at*;rw[if_pos (by omega),AD];simp only[AA,zt];simp[v1,AL];refine⟨_,_,p1 _,?_⟩;simp[zr,AO,r1];by_cases h5:k.tmod 5=0
  ·simp[Ze,h5,AA,Zn,r2,Zf,hw,hlt,AUk,hd,hb,Dat.V]
  ·simp[Ze,h5,AD,Zf,hw,hlt,AUk,hd,hb,Dat.V]
 ·have:i=cl.length:=by omega
  subst this;rw[if_neg (by omega),AM];simp
theorem AIy (l:List Int) (a b c:Int) (cl:List Clm) (ds:List Dat) (bad:List Int) (R0:Row):
  awp Tryz.prog GLx (.loop TF) (λe s=>e= .exit 2∧AH s.e 2= .ref 0 0∧AH s.e 3= .ref 1 0∧s.h=[R0,mkR a b c cl ds bad ((List.range (Ab l 8 3).toNat).map (WO l)) ((List.range (Ab l 8 3).toNat).filterMap (MC l))])
   ⟨[(0,.v (AL .i64 l)),(2,.ref 0 0),(3,.ref 1 0),(6,.v (.int .i64 (Ab l 8 3))),(7,.v (.int .i64 0))],[R0,mkR a b c cl ds bad [] []]⟩:=by
 have hN:=Dh l 8 3 (by decide);have hO:∀i,WO l i=⟨IntKind.i64.wrap (1+2*i+(Ab l (9+i) 1000).tmod 2),1,Ab l 8 3⟩:=λ_=>rfl;generalize Ab l 8 3=N at*;refine Ac N.toNat (λi=>⟨[(0,.v (AL .i64 l)),(2,.ref 0 0),(3,.ref 1 0),(6,.v (.int .i64 N)),(7,.v (.int .i64 i))],[R0,mkR a b c cl ds bad ((List.range i).map (WO l)) ((List.range i).filterMap (MC l))]⟩) (by simp) ?_;intro i hi;simp only[TF,AB,AA,AF,AE,Zm];simp[mkR];by_cases hlt:i <N.toNat
 ·have hlt':(i:Int) <N:=by omega
  have v1:IntKind.i64.wrap (9+(i:Int))=9+i:=AJ;have v2:IntKind.i64.wrap (2*(i:Int))=2*i:=AJ;have v3:IntKind.i64.wrap (1+2*(i:Int))=1+2*i:=AJ;have hw:IntKind.i64.wrap ((i:Int)+1)=i+1:=AJ;have p1:=(p47 l (9+i) 1000 (by decide)).fsp;have hlb:((List.range i).filterMap (MC l)).length≤i:=by have:=AVh (MC l) (List.range i);simpa using this
  have r1:Ah (i+1) 24=true:=by simp[Ah];omega
  have r2:Ah (((List.range i).filterMap (MC l)).length+1) 32=true:=by simp[Ah];omega
  simp[AL]at p1;have hd:=hO i;have hb:MC l i=if (Ab l (9+i) 1000).tmod 3=0 then some ⟨IntKind.i64.wrap (1+(Ab l (9+i) 1000).tmod 5),IntKind.i64.wrap (2+(Ab l (9+i) 1000).tmod 7),(Ab l (9+i) 1000),IntKind.i64.wrap ((Ab l (9+i) 1000)+IntKind.i64.wrap ((Ab l (9+i) 1000).tdiv 7))⟩ else none:=rfl;generalize Ab l (9+i) 1000=k at*;rw[if_pos (by omega),AD];simp only[AA,Zl];simp[v1,AL];refine⟨_,_,p1 _,?_⟩;simp[Zk,AO,r1,v2,v3];by_cases h5:k.tmod 3=0
  ·simp[Pv,h5,AA,Zj,AO,r2,Pw,hw,hlt',AUk,hd,hb,Own.V,Lic.V]
  ·simp[Pv,h5,AD,Pw,hw,hlt',AUk,hd,hb,Own.V]
 ·have:i=N.toNat:=by omega
  subst this;rw[if_neg (by omega),AM];simp
def AD9:AC:=(.seq (.seq (.reg Zg [0,2,3,4]) (.block 0 (.loop TG))) (.seq (.reg Py [0,2,3,6]) (.seq (.seq (.reg Px [0,2,3,6,7]) (.block 2 (.loop TF))) (.seq (.reg Pu [2]) .ret))))
theorem AEA:c48=(.seq (.reg Zp [0,2]) (.seq (.reg Zo [0,2,3]) (.seq (.seq (.reg Zi [0,2,3,18]) (.cond (.t 18 false) (.reg Zh [0,2,3]) .skip)) AD9))):=rfl
theorem p48 (l:List Int):PX 48 [AL .i64 l] [(DV l).V]:=by
 refine AK k48 rfl ?_;have p1:=(p47 l 0 40 (by decide)).fsp;have p2:=(p47 l 1 5 (by decide)).fsp;have p3:=(AQw l).fsp;have p4:=(p47 l 2 3 (by decide)).fsp;have p5:=(p47 l 3 5 (by decide)).fsp;have p6:=(p47 l 8 3 (by decide)).fsp;have hl0:=λc R0=>AIz l (Ab l 0 40) (Ab l 1 5) c (Bf l) (JD l) R0;have hl1:=λc ds bad R0=>AIy l (Ab l 0 40) (Ab l 1 5) c (Bf l) ds bad R0;simp[AL,mkR]at p1 p2 p3 p4 p5 p6 hl0 hl1;rw[AEA];simp only[AB,AA,AF,AE,Zp,Zo,AY];simp[AL];refine⟨_,_,p1 _,?_⟩;simp;refine⟨_,_,p2 _,?_⟩;simp;refine⟨_,_,p3 _,?_⟩;simp[AO,Zi];refine⟨_,_,p4 _,?_⟩;simp;have fin:∀(c:Int) (e:Env),AH e 0= .v (AL .i64 l)→AH e 2= .ref 0 0→AH e 3= .ref 1 0→c=(if Ab l 2 3=0 then Ab l 3 5 else 0)→
   awp Tryz.prog GLx AD9 (λe s=>(match e with| .exit _=>False|_=>True)∧B8 s AEB=some [(DV l).V])
    ⟨e,[.cells [.v (.int .i64 0),.v (.int .i64 0),.v (.int .i64 0),.own 130 5 [],.own 131 4 [],.own 3 1 [],.own 135 3 [],.own 137 4 []],
     .cells [.v (.int .i64 (Ab l 0 40)),.v (.int .i64 (Ab l 1 5)),.v (.int .i64 c),.v (.list ((Bf l).map Clm.V)),.own 131 4 [],.own 3 1 [],.own 135 3 [],.own 137 4 []]]⟩:=by
  intro c e f0 f2 f3 hc;unfold AD9;simp only[AB,AA,AF,Zg];simp[f0,f2,f3,AL];refine AX _ ?_ (hl0 c _);rintro e ⟨se,sh⟩ ⟨rfl,g0,g2,g3,hh⟩;simp only at g0 g2 g3 hh;subst hh;simp[Py,g0,g2,g3];refine⟨_,_,p6 _,?_⟩;simp[Px];have q:=hl1 c ((List.range (Bf l).length).map (VX l)) ((List.range (Bf l).length).filterMap (K3 l)) (.cells [.v (.int .i64 0),.v (.int .i64 0),.v (.int .i64 0),.own 130 5 [],.own 131 4 [],.own 3 1 [],.own 135 3 [],.own 137 4 []]);simp at q;refine AX _ ?_ q;rintro e ⟨se,sh⟩ ⟨rfl,g2,g3,hh⟩;simp only at g2 g3 hh;subst hh;simp[Pu,g2,g3,AG,AEB,AO,DV,Rgt.V,Rgt.cs,AL,hc]
 by_cases h0:Ab l 2 3=0
 ·simp[h0,AA,Zh];refine⟨_,_,p5 _,?_⟩;simp[AO];exact fin _ _ rfl rfl rfl (by simp[h0])
 ·simp[h0,AD];exact fin _ _ rfl rfl rfl (by simp[h0])
theorem GH (n:Int):i64 (IntKind.i64.wrap n):=by
 have h1:=Int.emod_nonneg n (b:=18446744073709551616) (by decide);have h2:=Int.emod_lt_of_pos n (b:=18446744073709551616) (by decide);unfold IntKind.wrap i64;simp only[IntKind.bits,IntKind.signed];have e1:((2:Int)^64)=18446744073709551616:=by decide
 have e2:((2:Int)^(64-1))=9223372036854775808:=by decide
 simp only[e1,e2,AUS,decide_eq_true_eq,ge_iff_le];split<;>omega
theorem Vy (b n:Int) (hn:0 <n): -n <b.tmod n∧b.tmod n <n:=by
 have h1:=AVg b hn;have h2:=AVg (-b) hn;rw[Int.neg_tmod]at h2;omega
theorem GK (b n:Int) (hn:0 <n) (h:n≤2^40):i64 (b.tmod n):=by have:=Vy b n hn;unfold i64;omega
theorem WM (l:List Int) (i n:Int) (hn:0 <n) (h:n≤2^40):i64 (Ab l i n):=by have:=Dh l i n hn;unfold i64;omega
structure F.tiny (m:Nat) (f:F):Prop where
 one:∀g∈f.nodes,g.ok1∧g.ins.length≤1
 len:f.nodes.length≤m
 size:f.size≤m
theorem F.tiny.ok {m:Nat} {f:F} (h:f.tiny m) (hm:m≤2^20):f.ok:=⟨λg hg=>(h.one g hg).1,by have:=h.size;omega⟩
theorem JZ {α:Type} {f:α→List Int} (c:Nat):∀l:List α,(∀x∈l,(f x).length≤c)→(l.flatMap f).length≤c*l.length
 |[],_=>by simp
 |x::l,h=>by
  have h1:=h x (by simp);have h2:=JZ c l λy hy=>h y (by simp[hy]);simp only[AT8,ATr,AUA,AVi];omega
theorem FG (l:List Int):(BF l).length≤10+10*l.length:=by
 have h1:=DG l.length;have h2:=CZ l;rw[BF,ATr];omega
theorem F.tiny.enc {m:Nat} {f:F} (h:f.tiny m):(B9 f).length≤200*m:=by
 have key:=JZ (f:=Cg) 200 f.nodes λg hg=>by
  have h1:=(h.one g hg).2;have h2:=JZ (f:=Ct) 100 g.ins λx _=>by
   have:=FG [x.ln,x.ld,x.hn,x.hd,b01 x.lo,b01 x.ho,b01 x.li,b01 x.hi];simp only[AUA,AU3]at this;exact AUV this (by decide)
  have:=An g.op;have:=An g.n;have:=An g.ins.length;have:=An g.kids.length;simp only[Cg,ATr];omega
 have:=h.len;have:200*f.nodes.length≤200*m:=AVv _ this;exact AUV key this
theorem EV (k:Int):(CS k).tiny 1:=by
 refine⟨?_,by simp[CS,F.nodes_eq],by simp[CS,F.size_eq]⟩;simp only[CS,F.nodes_eq,AVj,ATy,forall_eq,F.ok1,F.op,F.n,F.ins];exact⟨⟨by unfold i64;omega,GK _ _ (by decide) (by decide),by simp,by simp⟩,by simp⟩
theorem I2 (k:Int):(Ck k).tiny 1:=by
 refine⟨?_,by simp[Ck,F.nodes_eq],by simp[Ck,F.size_eq]⟩;simp only[Ck,F.nodes_eq,AVj,ATy,forall_eq,F.ok1,F.op,F.n,F.ins];exact⟨⟨by unfold i64;omega,GK _ _ (by decide) (by decide),⟨GK _ _ (by decide) (by decide),by simp[i64],GH _,by simp[i64]⟩,by simp⟩,by simp⟩
theorem GM {op:Int} {kids:List F} {m:Nat} (ho:i64 op) (hk:∀k∈kids,k.tiny m):(F.mk op 0 [] kids).tiny (1+m*kids.length):=by
 have s:∀l:List F,(∀k∈l,k.tiny m)→(l.flatMap F.nodes).length≤m*l.length∧(l.map F.size).sum≤m*l.length:=by
  intro l;induction l with
  |nil=>simp
  |cons x l ih=>
   intro h;have h1:=h x (by simp);have h2:=ih λk hk=>h k (by simp[hk]);have:=h1.len;have:=h1.size;simp only[AT8,ATr,AUA,ATz,AUz,AVi];omega
 have s1:=s kids hk;refine⟨?_,by rw[F.nodes_eq,AUA];omega,by rw[F.size_eq];omega⟩;intro g hg;rw[F.nodes_eq]at hg;rcases ATt.1 hg with rfl|hg
 ·exact⟨⟨ho,by simp[F.n,i64],by simp[F.ins],by simp[F.ins]⟩,by simp[F.ins]⟩
 ·obtain⟨k,hk1,hk2⟩:=AUb.1 hg;exact(hk k hk1).one g hk2
theorem F.tiny.mono {m n:Nat} {f:F} (h:f.tiny m) (hn:m≤n):f.tiny n:=⟨h.one,AUV h.len hn,AUV h.size hn⟩
theorem I1 (n:Int):(Cs n).tiny 3:=by
 unfold Cs;generalize A8 n 1048576=k;have o:∀n:Int,0≤n→n≤6→i64 n:=λn h1 h2=>by unfold i64;omega
 simp only
 repeat' split
 ·exact(EV k).mono (by decide)
 ·exact(I2 k).mono (by decide)
 ·exact(GM (m:=1) (o _ (by decide) (by decide)) (by simp[EV,I2])).mono (by simp)
 ·exact(GM (m:=1) (o _ (by decide) (by decide)) (by simp[EV])).mono (by simp)
 ·exact(GM (m:=1) (o _ (by decide) (by decide)) (by simp[EV])).mono (by simp)
structure Clm.tiny (c:Clm):Prop where
 refs:∀n∈c.refs,i64 n
 lr:c.refs.length≤2
 body:c.body.tiny 7
theorem Clm.tiny.ok {c:Clm} (h:c.tiny):c.ok:=⟨h.refs,by have:=h.lr;omega,h.body.ok (by decide)⟩
theorem F8 (l:List Int) (i:Nat) (hi:i≤3):(FK l i).tiny:=by
 unfold FK;generalize Ab l (2*i+1) 1000=k;generalize Ab l (2*i+2) 1048576=m;refine⟨?_,?_,?_⟩
 ·simp only;split
  ·simp[i64]
  ·split
   ·rename_i h;simp only[ATy,forall_eq];exact GK _ _ (by omega) (by omega)
   ·simp
 ·simp only;split
  ·simp
  ·split<;>simp
 ·simp only;split
  ·exact(GM (m:=3) (by unfold i64;omega) (by simp[I1])).mono (by simp)
  ·exact(I1 m).mono (by decide)
structure Rgt.tiny (m:Nat) (r:Rgt):Prop where
 file:i64 r.file
 state:i64 r.state
 force:i64 r.force
 claims:∀c∈r.claims,c.tiny
 dates:∀d∈r.dates,d.ok
 bad:∀n∈r.bad,i64 n
 owners:∀o∈r.owners,o.ok
 lics:∀h∈r.lics,h.ok
 lc:r.claims.length≤m
 ld:r.dates.length≤m
 lb:r.bad.length≤m
 lo:r.owners.length≤m
 ll:r.lics.length≤m
theorem VV {c:Clm} (h:c.tiny):(BT c).length≤1500:=by
 have h1:=FG c.refs;have h2:=h.lr;have h3:=h.body.enc;have h4:=DG (B9 c.body).length;simp only[BT,BI,ATr];omega
theorem FI {l:List Clm} (h:∀c∈l,c.tiny):(BJ l).length≤10+1500*l.length:=by
 have h1:=JZ (f:=BT) 1500 l λc hc=>VV (h c hc);have h2:=An l.length;simp only[BJ,ATr];omega
theorem Rgt.tiny.ok {m:Nat} {r:Rgt} (h:r.tiny m) (hm:m≤2^20):r.ok:=by
 have:=h.lc;have:=h.ld;have:=h.lb;have:=h.lo;have:=h.ll;have:=FI h.claims;exact⟨h.file,h.state,h.force,λc hc=>(h.claims c hc).ok,h.dates,h.bad,h.owners,h.lics,by omega,by omega,by omega,by omega,by omega,by omega⟩
theorem O4 (l:List Int):(DV l).tiny 3:=by
 have hc:=JD l;have hp:=Dh l 8 3 (by decide);have o:∀i n:Int,0 <n→n≤2^40→i64 (Ab l i n):=λi n=>WM l i n;refine⟨o 0 40 (by decide) (by decide),o 1 5 (by decide) (by decide),?_,?_,?_,?_,?_,?_,hc,?_,?_,?_,?_⟩
 ·simp only[DV];split
  ·exact o 3 5 (by decide) (by decide)
  ·simp[i64]
 ·intro c h;simp only[DV,Bf,ATw,AUC]at h;obtain⟨i,hi,rfl⟩:=h;have:=HZ l;exact F8 l i (by omega)
 ·intro d h;simp only[DV,ATw,AUC]at h;obtain⟨i,hi,rfl⟩:=h;exact⟨by simp only[VX];unfold i64;omega,GK _ _ (by decide) (by decide),GH _,GK _ _ (by decide) (by decide)⟩
 ·intro n h;simp only[DV,List.mem_filterMap,AUC,K3]at h;obtain⟨i,hi,h⟩:=h;split at h
  ·simp only[ATm]at h;subst h;unfold i64;omega
  ·simp at h
 ·intro w h;simp only[DV,ATw,AUC]at h;obtain⟨i,hi,rfl⟩:=h;exact⟨GH _,by simp[WO,i64],o 8 3 (by decide) (by decide)⟩
 ·intro w h;simp only[DV,List.mem_filterMap,AUC,MC]at h;obtain⟨i,hi,h⟩:=h;split at h
  ·simp only[ATm]at h;subst h;exact⟨GH _,GH _,o (9+i) 1000 (by decide) (by decide),GH _⟩
  ·simp at h
 ·simp only[DV,AT9,AVw];exact hc
 ·have:=AVh (K3 l) (List.range (Bf l).length);simp only[DV];rw[AVw]at this;omega
 ·simp only[DV,AT9,AVw];omega
 ·have:=AVh (MC l) (List.range (Ab l 8 3).toNat);simp only[DV];rw[AVw]at this;omega
theorem JN (n lo hi:Int):PX 125 [.int .i64 n,.int .i64 lo,.int .i64 hi] [.bool (inI n lo hi)]:=by
 refine AK ATJ rfl ?_;by_cases h1:lo≤n<;>by_cases h2:n≤hi<;>simp[AOu,awp,rf,re,ABu,AY,h1,h2,inI]
theorem JM (n lo hi:Int):PX 216 [.int .i64 n,.int .i64 lo,.int .i64 hi] [.bool (inI n lo hi)]:=by
 refine AK AJs rfl ?_;by_cases h1:lo≤n<;>by_cases h2:n≤hi<;>simp[AFr,awp,lW,lV,lX,AY,h1,h2,inI]
theorem AQG (a b:Dat):PX 220 [a.V,b.V] [.bool (Fd a b)]:=by
 refine AK ASe rfl ?_;unfold Fd;by_cases h1:a.cl <b.cl
 ·simp[um,awp,Ml,Mk,Tz,AY,Dat.V,h1]
 ·by_cases h2:a.cl=b.cl
  ·simp[um,awp,Ml,Mk,Tz,AY,Dat.V,h2]
  ·simp[um,awp,Ml,Mk,Tz,AY,Dat.V,h1,h2]
theorem AQC (a b:Int):PX 224 [.int .i64 a,.int .i64 b] [.bool (decide (a <b))]:=by
 refine AK ASc rfl ?_;simp[ANf,awp,kh,kg,AA9,AY]
theorem AP8 (a b:Own):PX 229 [a.V,b.V] [.bool (decide (a.party <b.party))]:=by
 refine AK ASZ rfl ?_;simp[ANc,awp,kL,kK,AA7,AY,Own.V]
theorem AP6 (x:Lic):PX 231 [x.V] [.bool (Fa x)]:=by
 refine AK ASY rfl ?_;have p1:=(JM x.fr 1 4095).fsp;have p2:=(JM x.to 1 4095).fsp;have p3:=(JM x.fst 0 x.lst).fsp;unfold Fa;generalize inI x.fr 1 4095=A at*;generalize inI x.to 1 4095=B at*;generalize inI x.fst 0 x.lst=C at*;simp at p1 p2 p3;simp only[ANa,AB,AA,kG,kF,AY];simp[Lic.V];refine⟨_,_,p1 _,?_⟩;cases A with
 |false=>simp[AG,Oe]
 |true=>
  simp;refine⟨_,_,p2 _,?_⟩;cases B with
  |false=>simp[AG,Oe]
  |true=>
   simp;refine⟨_,_,p3 _,?_⟩;cases C with
   |false=>simp[AG,Oe]
   |true=>simp[AG,Oe]
theorem AIj:okR 1 1=true:=by decide
theorem AQA (x:Own) (hx:x.ok):PX 226 [x.V] [.bool (EF x)]:=by
 refine AK ASb rfl ?_;have p1:=(JM x.party 1 4095).fsp;have p2:=(AIU x.num x.den 1 1 hx.2.1 hx.2.2 (by unfold i64;omega) (by unfold i64;omega)).fsp;rw[AIj,AVk]at p2;unfold EF;generalize inI x.party 1 4095=A at*;simp only[ANe,AB,AA,kb,ka,AY];simp[Own.V];cases hR:okR x.num x.den with
 |false=>
  rw[hR]at p2;simp[A5]at p1 p2;refine⟨_,_,p2 _,?_⟩;simp[Q2];refine⟨_,_,p1 _,?_⟩;cases A<;>simp[AG,Of]
 |true=>
  rw[hR]at p2;simp[A5]at p1 p2;refine⟨_,_,p2 _,?_⟩;simp[Q2];refine⟨_,_,p1 _,?_⟩;have hc:(PU x.num x.den 1 1≤0)↔x.num≤x.den:=by unfold PU;simp;split<;>(try split)<;>omega
  cases A with
  |false=>simp[AG,Of]
  |true=>
   by_cases h1:x.num≤x.den
   ·have h2:=hc.2 h1;simp[h2,h1,AG,Of]
   ·have h2:¬PU x.num x.den 1 1≤0:=λh=>h1 (hc.1 h);simp[h2,h1,AG,Of]
def Low (h:List Row):Prop:=∀row∈h,Row.low h.length row=true
theorem AQI (x:Dat) (n:Int) (h:List Row) (r:Nat) (hr:h[r]?=some (.cells [.v (.int .i64 n)])) (hn:0≤n∧n≤2^40) (hl:Low h):
  FX 218 [.v x.V,.ref r 0] h [.v (.bool (inI x.cl 0 (n-1)&&inI x.ix 0 63&&inI x.day 0 131072&&inI x.file 0 4095))] h:=by
 refine As ASf rfl (ATs _) hl (by simp[D.lt]) ?_;have w1:IntKind.i64.wrap (n-1)=n-1:=AJ;have p1:=(JM x.cl 0 (n-1)).fsp;have p2:=(JM x.ix 0 63).fsp;have p3:=(JM x.day 0 131072).fsp;have p4:=(JM x.file 0 4095).fsp;have hr':=AS [.cells [.v (.int .i64 x.cl),.v (.int .i64 x.ix),.v (.int .i64 x.day),.v (.int .i64 x.file)]] hr;generalize inI x.cl 0 (n-1)=A at*;generalize inI x.ix 0 63=B at*;generalize inI x.day 0 131072=C at*;generalize inI x.file 0 4095=E at*;simp at p1 p2 p3 p4;simp only[ANi,AB,AA,lR,lQ,AQ];simp[Dat.V,hr',w1];refine⟨_,_,p1 _,?_⟩;cases A with
 |false=>simp[AG,Og]
 |true=>
  simp;refine⟨_,_,p2 _,?_⟩;cases B with
  |false=>simp[AG,Og]
  |true=>
   simp;refine⟨_,_,p3 _,?_⟩;cases C with
   |false=>simp[AG,Og]
   |true=>
    simp;refine⟨_,_,p4 _,?_⟩;cases E<;>simp[AG,Og]
theorem AQE (x n:Int) (h:List Row) (r:Nat) (hr:h[r]?=some (.cells [.v (.int .i64 n)])) (hn:0≤n∧n≤2^40):
  FX 222 [.v (.int .i64 x),.ref r 0] h [.v (.bool (inI x 0 (n-1)))] h:=by
 refine AN ASd rfl ?_;have w1:IntKind.i64.wrap (n-1)=n-1:=AJ;have p1:=(JM x 0 (n-1)).fsp;simp at p1;simp only[ANg,AB,AA,lC,lA,AQ];simp[hr,w1];refine⟨_,_,p1 _,?_⟩;simp[AG,ABA]
theorem Low.app {h:List Row} (hl:Low h) {row:Row} (hr:Row.low (h.length+1) row=true):Low (h++[row]):=by
 intro x hx;rw[ATr];rcases AT7.1 hx with hx|hx
 ·have h1:=hl _ hx;cases x with
  |cells ds=>
   refine D1 λd hd=>?_;obtain⟨i,hi⟩:=AWK hd;exact Dn (by simp) d (EW h1 hi)
  |_=>exact h1
 ·simp at hx;subst hx;exact hr
theorem IdxR.map {P:Program} {GL:AV} {fid:Nat} {caps:List D} {α:Type} {f:α→V} {p:α→Bool} {l:List α} {h:List Row} (hp:∀x∈l,FSp P GL fid (.v (f x)::caps) h [.v (.bool (p x))] h):
  IdxR P GL fid caps (l.map f) h (l.findIdx? p) h:=by
 induction l with
 |nil=>exact⟨rfl,rfl⟩
 |cons x xs ih=>
  refine⟨p x,h,hp x (by simp),?_⟩;cases hx:p x with
  |true=>simp[AUn,hx]
  |false=>
   simp only[ATx,if_false];exact⟨_,ih λy hy=>hp y (by simp[hy]),by simp[AUn,hx]⟩
theorem Ed {α:Type} (p:α→Bool) (l:List α):(l.findIdx? λx=> !p x).isSome= !l.all p:=by
 rw[Cn,List.not_all_eq_any_not]
theorem ED {α:Type} (f:α→α→Bool):∀l:List α,Bz f l=true↔∀(i:Nat) x y,l[i]?=some x→l[i+1]?=some y→f x y=true
 |[]=>by simp[Bz]
 |[x]=>by simp[Bz]
 |x::y::l=>by
  simp only[Bz,ATn,ED f (y::l)]
  constructor
  ·rintro⟨h1,h2⟩ i a b ha hb;cases i with
   |zero=>simp at ha hb;subst ha;subst hb;exact h1
   |succ i=>exact h2 i a b (by simpa using ha) (by simpa using hb)
  ·exact λh=>⟨h 0 x y rfl rfl,λi a b ha hb=>h (i+1) a b (by simpa using ha) (by simpa using hb)⟩
theorem APa (x:Dat) (b:Bool) (fd:D) (fid:Nat) (caps:List D) (hf:FV fd fid caps) (h:List Row) (q:Nat) (hq:h[q]?=some (.cells [fd])) (hl:Low h)
  (hp:∀H,Low H→(∀(i:Nat) y,h[i]?=some y→H[i]?=some y)→FX fid (.v x.V::caps) H [.v (.bool b)] H):FX 288 [.v x.V,.ref q 0] h [.v (.bool (!b))] h:=by
 refine As AR3 rfl (ATs _) hl (by simp[D.lt]) ?_;have hq':=AS [.cells [.v (.int .i64 x.cl),.v (.int .i64 x.ix),.v (.int .i64 x.day),.v (.int .i64 x.file)]] hq;have hp':=hp _ (hl.app (row:= .cells [.v (.int .i64 x.cl),.v (.int .i64 x.ix),.v (.int .i64 x.day),.v (.int .i64 x.file)]) rfl) λ_ _ h=>AS _ h;have hcp:=hf.cp;have hfn:=hf.fn;have hny:=hf.ny;have hnt:=hf.nt;simp only[D.copy]at hcp
 try simp[Dat.V,]at hp'
 simp only[AMz,AB,AA,dh,AQ];simp[Dat.V,dg,hq',hcp,-DR,-D.norm];rw[hfn];simp;refine⟨_,_,hp',?_⟩;simp[AG,AAW]
theorem AQJ (l:List Dat) (P:Dat→Bool) (fd:D) (fid:Nat) (caps:List D) (hf:FV fd fid caps) (hfc:fd.cells?=some [fd]) (hfr:fd.toRow=fd) (h:List Row) (hl:Low h) (hlow:D.lt h.length fd=true) (hn:l.length <2^40)
  (hp:∀x∈l,∀H,Low H→(∀(i:Nat) y,h[i]?=some y→H[i]?=some y)→FX fid (.v x.V::caps) H [.v (.bool (P x))] H):
  FX 217 [.v (.list (l.map Dat.V)),fd] h [.v (.bool (l.all P))] h:=by
 refine As AJr rfl (ATs _) hl (by simp[D.lt]) ?_;have hcp:=hf.cp;simp only[D.copy]at hcp;have hl2:Low (h++[.cells [fd]]):=hl.app (by simp[Row.low,D.lts,Dn (Nat.le_succ _) _ hlow]);have hidx:IdxR Tryz.prog GLx 288 [.ref h.length 0] (l.map Dat.V) (h++[.cells [fd]]) (l.findIdx? λx=> !P x) (h++[.cells [fd]]):=
  IdxR.map λx hx=>APa x (P x) fd fid caps hf _ h.length (GT _ _) hl2 λH h1 h2=>hp x hx H h1 λi y hy=>h2 i y (AS _ hy)
 have hcf:=AIL (.func 288 [.ref h.length 0]) 288 [.ref h.length 0] (FV.r 288 h.length 0 []) (l.map Dat.V) (by simpa using hn) (by
  intro x hx;obtain⟨y,_,rfl⟩:=ATw.1 hx;exact⟨_,rfl,rfl⟩) hidx
 rw[Ed]at hcf;simp only[AFq,AB,AA,lT,AQ];simp[hcp,hfc,hfr,-D.cells?,-D.toRow];simp only[lS];simp
 try simp at hcf
 refine⟨_,_,hcf,?_⟩;simp[AG,lU]
theorem APZ (x:Int) (b:Bool) (fd:D) (fid:Nat) (caps:List D) (hf:FV fd fid caps) (h:List Row) (q:Nat) (hq:h[q]?=some (.cells [fd])) (hl:Low h)
  (hp:∀H,Low H→(∀(i:Nat) y,h[i]?=some y→H[i]?=some y)→FX fid (.v (.int .i64 x)::caps) H [.v (.bool b)] H):FX 289 [.v (.int .i64 x),.ref q 0] h [.v (.bool (!b))] h:=by
 refine AN AR2 rfl ?_;have hq':=hq;have hp':=hp h hl λ_ _ h=>h;have hcp:=hf.cp;have hfn:=hf.fn;have hny:=hf.ny;have hnt:=hf.nt;simp only[D.copy]at hcp
 try simp[]at hp'
 simp only[AMy,AB,AA,de,AQ];simp[dc,hq',hcp,-DR,-D.norm];rw[hfn];simp;refine⟨_,_,hp',?_⟩;simp[AG,AAV]
theorem AQF (l:List Int) (P:Int→Bool) (fd:D) (fid:Nat) (caps:List D) (hf:FV fd fid caps) (hfc:fd.cells?=some [fd]) (hfr:fd.toRow=fd) (h:List Row) (hl:Low h) (hlow:D.lt h.length fd=true) (hn:l.length <2^40)
  (hp:∀x∈l,∀H,Low H→(∀(i:Nat) y,h[i]?=some y→H[i]?=some y)→FX fid (.v (.int .i64 x)::caps) H [.v (.bool (P x))] H):
  FX 221 [.v (.list (l.map (V.int .i64))),fd] h [.v (.bool (l.all P))] h:=by
 refine As AJp rfl (ATs _) hl (by simp[D.lt]) ?_;have hcp:=hf.cp;simp only[D.copy]at hcp;have hl2:Low (h++[.cells [fd]]):=hl.app (by simp[Row.low,D.lts,Dn (Nat.le_succ _) _ hlow]);have hidx:IdxR Tryz.prog GLx 289 [.ref h.length 0] (l.map (V.int .i64)) (h++[.cells [fd]]) (l.findIdx? λx=> !P x) (h++[.cells [fd]]):=
  IdxR.map λx hx=>APZ x (P x) fd fid caps hf _ h.length (GT _ _) hl2 λH h1 h2=>hp x hx H h1 λi y hy=>h2 i y (AS _ hy)
 have hcf:=tY (.func 289 [.ref h.length 0]) 289 [.ref h.length 0] (FV.r 289 h.length 0 []) (l.map (V.int .i64)) (by simpa using hn) (by
  intro x hx;obtain⟨y,_,rfl⟩:=ATw.1 hx;exact⟨_,rfl⟩) hidx
 rw[Ed]at hcf;simp only[AFo,AB,AA,lF,AQ];simp[hcp,hfc,hfr,-D.cells?,-D.toRow];simp only[lD];simp
 try simp at hcf
 refine⟨_,_,hcf,?_⟩;simp[AG,lG]
theorem APY (x:Own) (b:Bool) (fd:D) (fid:Nat) (caps:List D) (hf:FV fd fid caps) (h:List Row) (q:Nat) (hq:h[q]?=some (.cells [fd])) (hl:Low h)
  (hp:∀H,Low H→(∀(i:Nat) y,h[i]?=some y→H[i]?=some y)→FX fid (.v x.V::caps) H [.v (.bool b)] H):FX 290 [.v x.V,.ref q 0] h [.v (.bool (!b))] h:=by
 refine As AR1 rfl (ATs _) hl (by simp[D.lt]) ?_;have hq':=AS [.cells [.v (.int .i64 x.party),.v (.int .i64 x.num),.v (.int .i64 x.den)]] hq;have hp':=hp _ (hl.app (row:= .cells [.v (.int .i64 x.party),.v (.int .i64 x.num),.v (.int .i64 x.den)]) rfl) λ_ _ h=>AS _ h;have hcp:=hf.cp;have hfn:=hf.fn;have hny:=hf.ny;have hnt:=hf.nt;simp only[D.copy]at hcp
 try simp[Own.V,]at hp'
 simp only[AMx,AB,AA,dZ,AQ];simp[Own.V,dY,hq',hcp,-DR,-D.norm];rw[hfn];simp;refine⟨_,_,hp',?_⟩;simp[AG,AAU]
theorem AQB (l:List Own) (P:Own→Bool) (fd:D) (fid:Nat) (caps:List D) (hf:FV fd fid caps) (hfc:fd.cells?=some [fd]) (hfr:fd.toRow=fd) (h:List Row) (hl:Low h) (hlow:D.lt h.length fd=true) (hn:l.length <2^40)
  (hp:∀x∈l,∀H,Low H→(∀(i:Nat) y,h[i]?=some y→H[i]?=some y)→FX fid (.v x.V::caps) H [.v (.bool (P x))] H):
  FX 225 [.v (.list (l.map Own.V)),fd] h [.v (.bool (l.all P))] h:=by
 refine As AJn rfl (ATs _) hl (by simp[D.lt]) ?_;have hcp:=hf.cp;simp only[D.copy]at hcp;have hl2:Low (h++[.cells [fd]]):=hl.app (by simp[Row.low,D.lts,Dn (Nat.le_succ _) _ hlow]);have hidx:IdxR Tryz.prog GLx 290 [.ref h.length 0] (l.map Own.V) (h++[.cells [fd]]) (l.findIdx? λx=> !P x) (h++[.cells [fd]]):=
  IdxR.map λx hx=>APY x (P x) fd fid caps hf _ h.length (GT _ _) hl2 λH h1 h2=>hp x hx H h1 λi y hy=>h2 i y (AS _ hy)
 have hcf:=AQX (.func 290 [.ref h.length 0]) 290 [.ref h.length 0] (FV.r 290 h.length 0 []) (l.map Own.V) (by simpa using hn) (by
  intro x hx;obtain⟨y,_,rfl⟩:=ATw.1 hx;exact⟨_,rfl,rfl⟩) hidx
 rw[Ed]at hcf;simp only[AFm,AB,AA,ke,AQ];simp[hcp,hfc,hfr,-D.cells?,-D.toRow];simp only[kc];simp
 try simp at hcf
 refine⟨_,_,hcf,?_⟩;simp[AG,kf]
theorem APU (x:Lic) (b:Bool) (fd:D) (fid:Nat) (caps:List D) (hf:FV fd fid caps) (h:List Row) (q:Nat) (hq:h[q]?=some (.cells [fd])) (hl:Low h)
  (hp:∀H,Low H→(∀(i:Nat) y,h[i]?=some y→H[i]?=some y)→FX fid (.v x.V::caps) H [.v (.bool b)] H):FX 294 [.v x.V,.ref q 0] h [.v (.bool (!b))] h:=by
 refine As ARy rfl (ATs _) hl (by simp[D.lt]) ?_;have hq':=AS [.cells [.v (.int .i64 x.fr),.v (.int .i64 x.to),.v (.int .i64 x.fst),.v (.int .i64 x.lst)]] hq;have hp':=hp _ (hl.app (row:= .cells [.v (.int .i64 x.fr),.v (.int .i64 x.to),.v (.int .i64 x.fst),.v (.int .i64 x.lst)]) rfl) λ_ _ h=>AS _ h;have hcp:=hf.cp;have hfn:=hf.fn;have hny:=hf.ny;have hnt:=hf.nt;simp only[D.copy]at hcp
 try simp[Lic.V,]at hp'
 simp only[AMu,AB,AA,dF,AQ];simp[Lic.V,dE,hq',hcp,-DR,-D.norm];rw[hfn];simp;refine⟨_,_,hp',?_⟩;simp[AG,AAT]
theorem AP7 (l:List Lic) (P:Lic→Bool) (fd:D) (fid:Nat) (caps:List D) (hf:FV fd fid caps) (hfc:fd.cells?=some [fd]) (hfr:fd.toRow=fd) (h:List Row) (hl:Low h) (hlow:D.lt h.length fd=true) (hn:l.length <2^40)
  (hp:∀x∈l,∀H,Low H→(∀(i:Nat) y,h[i]?=some y→H[i]?=some y)→FX fid (.v x.V::caps) H [.v (.bool (P x))] H):
  FX 230 [.v (.list (l.map Lic.V)),fd] h [.v (.bool (l.all P))] h:=by
 refine As AJl rfl (ATs _) hl (by simp[D.lt]) ?_;have hcp:=hf.cp;simp only[D.copy]at hcp;have hl2:Low (h++[.cells [fd]]):=hl.app (by simp[Row.low,D.lts,Dn (Nat.le_succ _) _ hlow]);have hidx:IdxR Tryz.prog GLx 294 [.ref h.length 0] (l.map Lic.V) (h++[.cells [fd]]) (l.findIdx? λx=> !P x) (h++[.cells [fd]]):=
  IdxR.map λx hx=>APU x (P x) fd fid caps hf _ h.length (GT _ _) hl2 λH h1 h2=>hp x hx H h1 λi y hy=>h2 i y (AS _ hy)
 have hcf:=APV (.func 294 [.ref h.length 0]) 294 [.ref h.length 0] (FV.r 294 h.length 0 []) (l.map Lic.V) (by simpa using hn) (by
  intro x hx;obtain⟨y,_,rfl⟩:=ATw.1 hx;exact⟨_,rfl,rfl⟩) hidx
 rw[Ed]at hcf;simp only[AFk,AB,AA,kI,AQ];simp[hcp,hfc,hfr,-D.cells?,-D.toRow];simp only[kH];simp
 try simp at hcf
 refine⟨_,_,hcf,?_⟩;simp[AG,kJ]
theorem AQH (l:List Dat) (hn:l.length≤2^40):PX 219 [.list (l.map Dat.V),.func 220 []] [.bool (Bz Fd l)]:=by
 refine AK AJq rfl ?_;obtain⟨R,hR⟩:∃R,Bz Fd l=R:=⟨_,rfl⟩;rw[hR];have hri:=ED Fd l;have hmx:(if IntKind.i64.wrap ((l.length:Int)-1) <0 then 0 else IntKind.i64.wrap ((l.length:Int)-1))=((l.length-1:Nat):Int):=by
  rw[AJ];split<;>omega
 simp only[AFp,AB,AA,AF,lO,lN,AY];simp[hmx];refine BK (l.length-1) (λk=>⟨[(0,.v (.list (l.map Dat.V))),(1,.v (.func 220 [])),(9,.v (.int .i64 (l.length-1:Nat))),(10,.v (.int .i64 k))],[]⟩) (λk=>∀j <k,∀x y,l[j]?=some x→l[j+1]?=some y→Fd x y=true) (by simp) (by simp) ?_;intro k hk hI;simp only[lP,AB,AA,AF,AE,lM];simp;by_cases hlt:k <l.length-1
 ·obtain⟨x,hx⟩:∃x,l[k]?=some x:=⟨_,ATo (by omega)⟩;obtain⟨y,hy⟩:∃y,l[k+1]?=some y:=⟨_,ATo (by omega)⟩;have hw:IntKind.i64.wrap ((k:Int)+1)=((k+1:Nat):Int):=AJ;have hge:(0:Int)≤((k+1:Nat):Int):=by omega
  have hlt':(k:Int) <((l.length-1:Nat):Int):=by omega
  have hp:=(AQG x y).fsp;have hnat:(((k+1:Nat):Int)).toNat=k+1:=by omega
  generalize hb:Fd x y=b at*;rw[if_pos (by omega),AD];simp only[AA,Aa,lL,lK];simp[Dat.V,hb]at hp;simp only[AUs,AVl]at hw hge hnat;simp[hx,hy,Dat.V,hw,hge,hnat];refine⟨_,_,(hp []),?_⟩;cases b with
  |false=>
   have hf:R=false:=by
    rw[←hR];cases h:Bz Fd l with
    |false=>rfl
    |true=>exact absurd ((hri.1 h k x y hx hy).symm.trans hb) (by decide)
   simp[AB,AA,AG,lJ,T1,hf]
  |true=>
   simp[AD,AA,lI,hw];refine⟨hlt,λj hj a c ha hc=>?_⟩;rcases AUD j k with h|h
   ·simpa using hI j h a c ha hc
   ·have:j=k:=by omega
    subst this;rw[hx]at ha;rw[hy]at hc;cases ha;cases hc;simpa using hb
 ·have hk2:k=l.length-1:=by omega
  have ht:R=true:=by
   rw[←hR];refine hri.2 λj a c ha hc=>hI j ?_ a c ha hc;have:=(ATp.1 hc).1;omega
  rw[if_neg (by omega),AM];simp[AA,AG,AB,lH,T1,ht]
theorem AQD (l:List Int) (hn:l.length≤2^40):PX 223 [.list (l.map (V.int .i64)),.func 224 []] [.bool (Bz (λa b=>decide (a <b)) l)]:=by
 refine AK AJo rfl ?_;obtain⟨R,hR⟩:∃R,Bz (λa b=>decide (a <b)) l=R:=⟨_,rfl⟩;rw[hR];have hri:=ED (λa b=>decide (a <b)) l;have hmx:(if IntKind.i64.wrap ((l.length:Int)-1) <0 then 0 else IntKind.i64.wrap ((l.length:Int)-1))=((l.length-1:Nat):Int):=by
  rw[AJ];split<;>omega
 simp only[AFn,AB,AA,AF,k0,kz,AY];simp[hmx];refine BK (l.length-1) (λk=>⟨[(0,.v (.list (l.map (V.int .i64)))),(1,.v (.func 224 [])),(9,.v (.int .i64 (l.length-1:Nat))),(10,.v (.int .i64 k))],[]⟩) (λk=>∀j <k,∀x y,l[j]?=some x→l[j+1]?=some y→(λa b=>decide (a <b)) x y=true) (by simp) (by simp) ?_;intro k hk hI;simp only[k8,AB,AA,AF,AE,kw];simp;by_cases hlt:k <l.length-1
 ·obtain⟨x,hx⟩:∃x,l[k]?=some x:=⟨_,ATo (by omega)⟩;obtain⟨y,hy⟩:∃y,l[k+1]?=some y:=⟨_,ATo (by omega)⟩;have hw:IntKind.i64.wrap ((k:Int)+1)=((k+1:Nat):Int):=AJ;have hge:(0:Int)≤((k+1:Nat):Int):=by omega
  have hlt':(k:Int) <((l.length-1:Nat):Int):=by omega
  have hp:=(AQC x y).fsp;have hnat:(((k+1:Nat):Int)).toNat=k+1:=by omega
  generalize hb:(λa b=>decide (a <b)) x y=b at*;rw[if_pos (by omega),AD];simp only[AA,Aa,ku,kr];simp[hb]at hp;simp only[AUs,AVl]at hw hge hnat;simp[hx,hy,hw,hge,hnat];refine⟨_,_,(hp []),?_⟩;cases b with
  |false=>
   have hf:R=false:=by
    rw[←hR];cases h:Bz (λa b=>decide (a <b)) l with
    |false=>rfl
    |true=>exact absurd ((hri.1 h k x y hx hy).symm.trans hb) (by decide)
   simp[AB,AA,AG,kq,Ty,hf]
  |true=>
   simp[AD,AA,km,hw];refine⟨hlt,λj hj a c ha hc=>?_⟩;rcases AUD j k with h|h
   ·simpa using hI j h a c ha hc
   ·have:j=k:=by omega
    subst this;rw[hx]at ha;rw[hy]at hc;cases ha;cases hc;simpa using hb
 ·have hk2:k=l.length-1:=by omega
  have ht:R=true:=by
   rw[←hR];refine hri.2 λj a c ha hc=>hI j ?_ a c ha hc;have:=(ATp.1 hc).1;omega
  rw[if_neg (by omega),AM];simp[AA,AG,AB,kj,Ty,ht]
theorem AP9 (l:List Own) (hn:l.length≤2^40):PX 228 [.list (l.map Own.V),.func 229 []] [.bool (Bz (λa b=>decide (a.party <b.party)) l)]:=by
 refine AK AJm rfl ?_;obtain⟨R,hR⟩:∃R,Bz (λa b=>decide (a.party <b.party)) l=R:=⟨_,rfl⟩;rw[hR];have hri:=ED (λa b=>decide (a.party <b.party)) l;have hmx:(if IntKind.i64.wrap ((l.length:Int)-1) <0 then 0 else IntKind.i64.wrap ((l.length:Int)-1))=((l.length-1:Nat):Int):=by
  rw[AJ];split<;>omega
 simp only[AFl,AB,AA,AF,kT,kS,AY];simp[hmx];refine BK (l.length-1) (λk=>⟨[(0,.v (.list (l.map Own.V))),(1,.v (.func 229 [])),(9,.v (.int .i64 (l.length-1:Nat))),(10,.v (.int .i64 k))],[]⟩) (λk=>∀j <k,∀x y,l[j]?=some x→l[j+1]?=some y→(λa b=>decide (a.party <b.party)) x y=true) (by simp) (by simp) ?_;intro k hk hI;simp only[kU,AB,AA,AF,AE,kR];simp;by_cases hlt:k <l.length-1
 ·obtain⟨x,hx⟩:∃x,l[k]?=some x:=⟨_,ATo (by omega)⟩;obtain⟨y,hy⟩:∃y,l[k+1]?=some y:=⟨_,ATo (by omega)⟩;have hw:IntKind.i64.wrap ((k:Int)+1)=((k+1:Nat):Int):=AJ;have hge:(0:Int)≤((k+1:Nat):Int):=by omega
  have hlt':(k:Int) <((l.length-1:Nat):Int):=by omega
  have hp:=(AP8 x y).fsp;have hnat:(((k+1:Nat):Int)).toNat=k+1:=by omega
  generalize hb:(λa b=>decide (a.party <b.party)) x y=b at*;rw[if_pos (by omega),AD];simp only[AA,Aa,kQ,kP];simp[Own.V,hb]at hp;simp only[AUs,AVl]at hw hge hnat;simp[hx,hy,Own.V,hw,hge,hnat];refine⟨_,_,(hp []),?_⟩;cases b with
  |false=>
   have hf:R=false:=by
    rw[←hR];cases h:Bz (λa b=>decide (a.party <b.party)) l with
    |false=>rfl
    |true=>exact absurd ((hri.1 h k x y hx hy).symm.trans hb) (by decide)
   simp[AB,AA,AG,kO,Tx,hf]
  |true=>
   simp[AD,AA,kN,hw];refine⟨hlt,λj hj a c ha hc=>?_⟩;rcases AUD j k with h|h
   ·simpa using hI j h a c ha hc
   ·have:j=k:=by omega
    subst this;rw[hx]at ha;rw[hy]at hc;cases ha;cases hc;simpa using hb
 ·have hk2:k=l.length-1:=by omega
  have ht:R=true:=by
   rw[←hR];refine hri.2 λj a c ha hc=>hI j ?_ a c ha hc;have:=(ATp.1 hc).1;omega
  rw[if_neg (by omega),AM];simp[AA,AG,AB,kM,Tx,ht]
theorem Jq {α:Type} {ok:α→Bool} {f:α→α→Bool} {l:List α} (P:Nat→Bool) (hP:∀(k:Nat) x,l[k]?=some x→(∀j <k,P j=true)→P k=(ok x&&(match k with|0=>true|j+1=>match l[j]? with|some y=>f y x|none=>true))):
  (l.all ok&&Bz f l)=decide (∀k <l.length,P k=true):=by
 rw[AUt,ATn,ED,AT4,decide_eq_true_eq]
 constructor
 ·rintro⟨h1,h2⟩;have key:∀n,∀k <n,k <l.length→P k=true:=by
   intro n;induction n with
   |zero=>intro k hk;omega
   |succ n ih=>
    intro k hk hkl;have hx:l[k]?=some l[k]:=ATo hkl;rw[hP k _ hx λj hj=>ih j (by omega) (by omega),h1 _ (AUc hkl),AUS];cases k with
    |zero=>rfl
    |succ j=>
     have hy:l[j]?=some l[j]:=ATo (by omega);simp only[hy];exact h2 j _ _ hy hx
  exact λk hk=>key (k+1) k (by omega) hk
 ·intro h;have h3:∀(k:Nat) x,l[k]?=some x→(ok x&&(match k with|0=>true|j+1=>match l[j]? with|some y=>f y x|none=>true))=true:=by
   intro k x hx;have hk:=(ATp.1 hx).1;rw[←hP k x hx λj hj=>h j (by omega)];exact h k hk
  refine⟨λx hx=>?_,λi x y hx hy=>?_⟩
  ·obtain⟨k,hk⟩:=AWK hx;have:=h3 k x hk;simp only[ATn]at this;exact this.1
  ·have:=h3 (i+1) y hy;simp only[ATn,hx]at this;exact this.2
def Rgt.row (r:Rgt):Row:= .cells [.v (.int .i64 r.file),.v (.int .i64 r.state),.v (.int .i64 r.force),.v (.list (r.claims.map Clm.V)),.v (.list (r.dates.map Dat.V)),.v (AL .i64 r.bad),.v (.list (r.owners.map Own.V)),.v (.list (r.lics.map Lic.V))]
def Fs {α:Type} (f:α→α→Bool) (l:List α) (k:Nat) (x:α):Bool:=match k with|0=>true|j+1=>match l[j]? with|some y=>f y x|none=>true
set_option maxHeartbeats 4000000 in
theorem ACd (x:Lic) (q:Nat) (H:List Row) (hq:H[q]?=some (.cells [.v (.int .i64 x.fr),.v (.int .i64 x.to),.v (.int .i64 x.fst),.v (.int .i64 x.lst)])) (d10:D) (K:St→Prop)
  (hK:∀e',AH e' 1= .ref 0 0→AH e' 10=d10→AH e' 228= .v (.bool (!Fa x))→K ⟨e',H⟩):
  Bd Tryz.prog GLx Pn K ⟨[(1,.ref 0 0),(10,d10),(11,.ref q 0)],H⟩:=by
 have p1:=(JN x.fr 1 4095).fsp;have p2:=(JN x.to 1 4095).fsp;have p3:=(JN x.fst 0 x.lst).fsp;unfold Fa at hK;generalize inI x.fr 1 4095=A at*;generalize inI x.to 1 4095=B at*;generalize inI x.fst 0 x.lst=C at*;simp at p1 p2 p3;simp only[Pn];simp[hq];refine⟨_,_,p1 _,?_⟩;cases A with
 |false=>simp;exact hK _ rfl rfl rfl
 |true=>
 simp[hq];refine⟨_,_,p2 _,?_⟩;cases B with
 |false=>simp;exact hK _ rfl rfl rfl
 |true=>
 simp[hq];refine⟨_,_,p3 _,?_⟩;cases C with
 |false=>simp;exact hK _ rfl rfl rfl
 |true=>
 simp[hq];refine hK _ rfl rfl ?_;simp;by_cases h:x.lst≤131072<;>simp[h]<;>omega
set_option maxHeartbeats 4000000 in
theorem AH3 (x:Dat) (n:Nat) (last:Int) (q:Nat) (H:List Row) (hq:H[q]?=some (.cells [.v (.int .i64 x.cl),.v (.int .i64 x.ix),.v (.int .i64 x.day),.v (.int .i64 x.file)])) (hn:n≤2^30) (d1 d5:D) (K:St→Prop)
  (hK:∀e',AH e' 1=d1→AH e' 3= .v (.int .i64 n)→AH e' 5=d5→AH e' 6= .ref q 0→AH e' 98= .v (.bool (!(Fc n x&&decide (last <64*x.cl+x.ix))))→K ⟨e',H⟩):
  Bd Tryz.prog GLx ZL K ⟨[(1,d1),(3,.v (.int .i64 n)),(4,.v (.int .i64 last)),(5,d5),(6,.ref q 0)],H⟩:=by
 have p1:=(JN x.cl 0 (n-1)).fsp;have p2:=(JN x.ix 0 63).fsp;have p3:=(JN x.day 0 131072).fsp;have p4:=(JN x.file 0 4095).fsp;have w0:IntKind.i64.wrap ((n:Int)-1)=n-1:=AJ;have b1:inI x.cl 0 (n-1)=true→0≤x.cl∧x.cl≤n-1:=by simp[inI]
 have b2:inI x.ix 0 63=true→0≤x.ix∧x.ix≤63:=by simp[inI]
 unfold Fc at hK;generalize inI x.cl 0 (n-1)=A at*;generalize inI x.ix 0 63=B at*;generalize inI x.day 0 131072=C at*;generalize inI x.file 0 4095=E at*;simp at p1 p2 p3 p4;simp only[ZL];simp[hq,w0];refine⟨_,_,p1 _,?_⟩;cases A with
 |false=>simp;exact hK _ rfl rfl rfl rfl rfl
 |true=>
 simp[hq];refine⟨_,_,p2 _,?_⟩;cases B with
 |false=>simp;exact hK _ rfl rfl rfl rfl rfl
 |true=>
 have b1:=b1 rfl;have b2:=b2 rfl;have w1:IntKind.i64.wrap (64*x.cl)=64*x.cl:=AJ;have w2:IntKind.i64.wrap (64*x.cl+x.ix)=64*x.cl+x.ix:=AJ;simp[hq];refine⟨_,_,p3 _,?_⟩;cases C with
 |false=>simp;exact hK _ rfl rfl rfl rfl rfl
 |true=>
 simp[hq];refine⟨_,_,p4 _,?_⟩;cases E with
 |false=>simp;exact hK _ rfl rfl rfl rfl rfl
 |true=>
 simp[hq,w1,w2];refine hK _ rfl rfl rfl rfl ?_;simp;by_cases h:last <64*x.cl+x.ix<;>simp[h]<;>omega
set_option maxHeartbeats 4000000 in
theorem ACf (r:Rgt) (n k:Nat) (x:Int) (H:List Row) (h0:H[0]?=some r.row) (hx:r.bad[k]?=some x) (hn:n≤2^30) (hk:k≤2^30) (d111:D) (K:St→Prop)
  (hK:∀e',AH e' 1= .ref 0 0→AH e' 3= .v (.int .i64 n)→AH e' 7= .v (.int .i64 k)→AH e' 140= .v (.bool (!(inI x 0 (n-1)&&Fs (λa b=>decide (a <b)) r.bad k x)))→K ⟨e',H⟩):
  ID Tryz.prog GLx Ps K ⟨[(1,.ref 0 0),(3,.v (.int .i64 n)),(7,.v (.int .i64 k)),(111,d111)],H⟩:=by
 have p1:=JN x 0 (n-1);have w0:IntKind.i64.wrap ((n:Int)-1)=n-1:=AJ;generalize inI x 0 (n-1)=A at*;simp only[Ps];simp[h0,Rgt.row,w0,AL,hx];refine⟨_,_,⟨rfl,rfl⟩,_,p1,?_⟩;cases A with
 |false=>simp;exact hK _ rfl rfl rfl rfl
 |true=>
 cases k with
 |zero=>simp;exact hK _ rfl rfl rfl rfl
 |succ j=>
  have hj:j <r.bad.length:=by have:=(ATp.1 hx).1;omega
  obtain⟨y,hy⟩:∃y,r.bad[j]?=some y:=⟨_,ATo hj⟩;have w1:IntKind.i64.wrap (((j+1:Nat):Int)-1)=j:=by rw[AJ];omega
  have w2:(0:Int) <((j+1:Nat):Int):=by omega
  have w5:IntKind.i64.wrap (j:Int)=j:=AJ;have w3:(0:Int)≤((j+1:Nat):Int):=by omega
  have w4:((j+1:Nat):Int).toNat=j+1:=by omega
  simp only[AUs,AVl]at w1 w2 w3 w4;simp[h0,Rgt.row,AL,hx,w1,w2,w5,w3,w4,hy];refine hK _ rfl rfl (by simp) ?_;simp[Fs,hy];by_cases h:y <x<;>simp[h]<;>omega
set_option maxHeartbeats 4000000 in
theorem ACe (r:Rgt) (k:Nat) (x:Own) (hxo:x.ok) (q:Nat) (H:List Row) (h0:H[0]?=some r.row) (hx:r.owners[k]?=some x) (hk:k≤2^30) (hq:H[q]?=some (.cells [.v (.int .i64 x.party),.v (.int .i64 x.num),.v (.int .i64 x.den)])) (K:St→Prop)
  (hK:∀e',AH e' 1= .ref 0 0→AH e' 8= .v (.int .i64 k)→AH e' 193= .v (.bool (!(EF x&&Fs (λa b=>decide (a.party <b.party)) r.owners k x)))→K ⟨e',H⟩):
  ID Tryz.prog GLx Pp K ⟨[(1,.ref 0 0),(8,.v (.int .i64 k)),(9,.ref q 0)],H⟩:=by
 have p1:=JN x.party 1 4095;have p2:=AIb x.num x.den hxo.2.1 hxo.2.2;unfold EF at hK;generalize inI x.party 1 4095=A at*;generalize okR x.num x.den=B at*;simp[A5]at p2;simp only[Pp];simp[hq];refine⟨_,_,⟨rfl,rfl⟩,_,p1,?_⟩;cases A with
 |false=>simp;exact hK _ rfl rfl rfl
 |true=>
 simp[hq];refine⟨_,_,⟨rfl,rfl⟩,_,p2,?_⟩;cases B with
 |false=>simp;exact hK _ rfl rfl rfl
 |true=>
 simp[hq];by_cases h1:x.num≤0
 ·have h1':¬0 <x.num:=by omega
  simp[h1];exact hK _ rfl rfl (by simp[h1'])
 have h1':0 <x.num:=by omega
 simp[h1,hq];by_cases h2:x.den <x.num
 ·have h2':¬x.num≤x.den:=by omega
  simp[h2];exact hK _ rfl rfl (by simp[h2'])
 have h2':x.num≤x.den:=by omega
 simp[h2];cases k with
 |zero=>simp;exact hK _ rfl rfl (by simp[h1',h2',Fs])
 |succ j=>
  have hj:j <r.owners.length:=by have:=(ATp.1 hx).1;omega
  obtain⟨y,hy⟩:∃y,r.owners[j]?=some y:=⟨_,ATo hj⟩;have w1:IntKind.i64.wrap (((j+1:Nat):Int)-1)=j:=by rw[AJ];omega
  have w2:(0:Int) <((j+1:Nat):Int):=by omega
  have w5:IntKind.i64.wrap (j:Int)=j:=AJ;simp only[AUs,AVl]at w1 w2;simp[h0,Rgt.row,hq,w1,w2,w5,hy,Own.V];refine hK _ rfl (by simp) ?_;simp[Fs,hy,h1',h2'];by_cases h:y.party <x.party<;>simp[h]<;>omega
def Hg (ds:List Dat):Nat→Int
 |0=> -1
 |j+1=>match ds[j]? with|some y=>64*y.cl+y.ix|none=> -1
def pD (n:Nat) (ds:List Dat) (k:Nat):Bool:=match ds[k]? with|some x=>Fc n x&&decide (Hg ds k <64*x.cl+x.ix)|none=>true
def pL {α:Type} (ok:α→Bool) (f:α→α→Bool) (l:List α) (k:Nat):Bool:=match l[k]? with|some x=>ok x&&Fs f l k x|none=>true
theorem tx (n lo hi:Int):inI n lo hi=true↔lo≤n∧n≤hi:=by simp[inI]
theorem MP {n:Nat} {x:Dat} (h:Fc n x=true):0≤x.cl∧x.cl≤n-1∧0≤x.ix∧x.ix≤63:=by
 simp only[Fc,ATn,tx]at h;omega
theorem VW (n:Nat) (ds:List Dat):(ds.all (Fc n)&&Bz Fd ds)=decide (∀k <ds.length,pD n ds k=true):=by
 refine Jq (pD n ds) λk x hx hprev=>?_;simp only[pD,hx];cases hok:Fc n x with
 |false=>simp
 |true=>
  have b:=MP hok;simp only[AUS];cases k with
  |zero=>
   have: -1 <64*x.cl+x.ix:=by omega
   simp[Hg,this]
  |succ j=>
   cases hy:ds[j]? with
   |none=>
    have: -1 <64*x.cl+x.ix:=by omega
    simp[Hg,hy,this]
   |some y=>
    have h1:=hprev j (by omega);simp only[pD,hy,ATn]at h1;have b2:=MP h1.1;simp only[Hg,hy,Fd];rw[AUt];simp;omega
theorem N6 {α:Type} (ok:α→Bool) (f:α→α→Bool) (l:List α):(l.all ok&&Bz f l)=decide (∀k <l.length,pL ok f l k=true):=by
 refine Jq (pL ok f l) λk x hx _=>?_;simp only[pL,hx];rfl
theorem vb {α:Type} (ok:α→Bool) (l:List α):l.all ok=decide (∀k <l.length,∀x,l[k]?=some x→ok x=true):=by
 rw[AUt,AT4,decide_eq_true_eq]
 constructor
 ·exact λh k _ x hx=>h x (ATq hx)
 ·intro h x hx;obtain⟨k,hk⟩:=AWK hx;exact h k (ATp.1 hk).1 x hk
theorem AIx (r:Rgt) (n:Nat) (hn:n≤2^30) (hl:r.dates.length≤2^30) (J0:List Row) (Q:AExit→St→Prop)
  (hgo:(∀k <r.dates.length,pD n r.dates k=true)→∀e J,AH e 1= .ref 0 0→AH e 3= .v (.int .i64 n)→Q (.exit 0) ⟨e,r.row::J⟩)
  (hbad:¬(∀k <r.dates.length,pD n r.dates k=true)→∀s,AH s.e 2= .v (.bool false)→Q .ret s):
  awp Tryz.prog GLx (.loop TE) Q ⟨[(1,.ref 0 0),(3,.v (.int .i64 n)),(4,.v (.int .i64 (-1))),(5,.v (.int .i64 0))],r.row::J0⟩:=by
 refine Ae r.dates.length (λk s=>s.e=[(1,.ref 0 0),(3,.v (.int .i64 n)),(4,.v (.int .i64 (Hg r.dates k))),(5,.v (.int .i64 k))]∧(∃J,s.h=r.row::J)∧∀j <k,pD n r.dates j=true) ⟨rfl,⟨J0,rfl⟩,by simp⟩ ?_;rintro k ⟨se,sh⟩ hk ⟨he,⟨J,hh⟩,hI⟩;simp only at he hh;subst he hh;simp only[TE,AB,AA,AF,AE,zq];simp[Rgt.row];by_cases hlt:k <r.dates.length
 ·obtain⟨x,hx⟩:∃x,r.dates[k]?=some x:=⟨_,ATo hlt⟩;have hw:IntKind.i64.wrap ((k:Int)+1)=k+1:=AJ;have hpk:pD n r.dates k=(Fc n x&&decide (Hg r.dates k <64*x.cl+x.ix)):=by simp only[pD,hx]
  have hnx:Hg r.dates (k+1)=64*x.cl+x.ix:=by simp only[Hg,hx]
  rw[if_pos (by omega),AD];simp only[AA,zo];simp[hx,Dat.V,AO];refine AH3 x n (Hg r.dates k) (J.length+1) _ (by simp) hn _ _ _ ?_;intro e' f1 f3 f5 f6 f98;rw[←hpk]at f98;simp[f98];cases hp:pD n r.dates k with
  |false=>
   have hnot:¬ ∀k <r.dates.length,pD n r.dates k=true:=λh=>by rw[h k hlt]at hp;cases hp
   simp[AA,AG,Zb];exact hbad hnot _ rfl
  |true=>
   rw[hp]at hpk;have hdo:Fc n x=true:=by
    have:=hpk.symm;simp only[ATn]at this;exact this.1
   have b:=MP hdo;have w1:IntKind.i64.wrap (64*x.cl)=64*x.cl:=AJ;have w2:IntKind.i64.wrap (64*x.cl+x.ix)=64*x.cl+x.ix:=AJ;simp[AD,Za,f1,f3,f5,f6,w1,w2,zp,hw,hlt,hnx];intro j hj;rcases AUD j k with h|h
   ·exact hI j h
   ·have:j=k:=by omega
    subst this;exact hp
 ·have:k=r.dates.length:=by omega
  subst this;rw[if_neg (by omega),AM];simp;exact hgo hI _ J rfl rfl
theorem AIw (r:Rgt) (n:Nat) (hn:n≤2^30) (hl:r.bad.length≤2^30) (J:List Row) (Q:AExit→St→Prop)
  (hgo:(∀k <r.bad.length,pL (λi=>inI i 0 (n-1)) (λa b=>decide (a <b)) r.bad k=true)→∀e,AH e 1= .ref 0 0→Q (.exit 2) ⟨e,r.row::J⟩)
  (hbad:¬(∀k <r.bad.length,pL (λi=>inI i 0 (n-1)) (λa b=>decide (a <b)) r.bad k=true)→∀s,AH s.e 2= .v (.bool false)→Q .ret s):
  awp Tryz.prog GLx (.loop TD) Q ⟨[(1,.ref 0 0),(3,.v (.int .i64 n)),(7,.v (.int .i64 0))],r.row::J⟩:=by
 refine BK r.bad.length (λk=>⟨[(1,.ref 0 0),(3,.v (.int .i64 n)),(7,.v (.int .i64 k))],r.row::J⟩) (λk=>∀j <k,pL (λi=>inI i 0 (n-1)) (λa b=>decide (a <b)) r.bad j=true) rfl (by simp) ?_;intro k hk hI;simp only[TD,AB,AA,AF,AE,ZZ];simp[Rgt.row,AL];by_cases hlt:k <r.bad.length
 ·obtain⟨x,hx⟩:∃x,r.bad[k]?=some x:=⟨_,ATo hlt⟩;have hw:IntKind.i64.wrap ((k:Int)+1)=k+1:=AJ;have hpk:pL (λi=>inI i 0 (n-1)) (λa b=>decide (a <b)) r.bad k=(inI x 0 (n-1)&&Fs (λa b=>decide (a <b)) r.bad k x):=by simp only[pL,hx]
  rw[if_pos (by omega),AD];simp only[Aa]
  try simp
  refine ACf r n k x (r.row::J) rfl hx hn (by omega) _ _ ?_;intro e' f1 f3 f7 f140;rw[←hpk]at f140;simp[f140];cases hp:pL (λi=>inI i 0 (n-1)) (λa b=>decide (a <b)) r.bad k with
  |false=>
   have hnot:¬ ∀k <r.bad.length,pL (λi=>inI i 0 (n-1)) (λa b=>decide (a <b)) r.bad k=true:=λh=>by rw[h k hlt]at hp;cases hp
   simp[AA,AG,ZX];exact hbad hnot _ rfl
  |true=>
   simp[AD,AA,f1,f3,f7,ZY,hw,hlt,Rgt.row,AL];intro j hj;rcases AUD j k with h|h
   ·exact hI j h
   ·have:j=k:=by omega
    subst this;exact hp
 ·have:k=r.bad.length:=by omega
  subst this;rw[if_neg (by omega),AM];simp;exact hgo hI _ rfl
theorem AIv (r:Rgt) (ho:∀o∈r.owners,o.ok) (hl:r.owners.length≤2^30) (J0:List Row) (Q:AExit→St→Prop)
  (hgo:(∀k <r.owners.length,pL EF (λa b=>decide (a.party <b.party)) r.owners k=true)→∀e J,AH e 1= .ref 0 0→Q (.exit 4) ⟨e,r.row::J⟩)
  (hbad:¬(∀k <r.owners.length,pL EF (λa b=>decide (a.party <b.party)) r.owners k=true)→∀s,AH s.e 2= .v (.bool false)→Q .ret s):
  awp Tryz.prog GLx (.loop TC) Q ⟨[(1,.ref 0 0),(8,.v (.int .i64 0))],r.row::J0⟩:=by
 refine Ae r.owners.length (λk s=>s.e=[(1,.ref 0 0),(8,.v (.int .i64 k))]∧(∃J,s.h=r.row::J)∧∀j <k,pL EF (λa b=>decide (a.party <b.party)) r.owners j=true) ⟨rfl,⟨J0,rfl⟩,by simp⟩ ?_;rintro k ⟨se,sh⟩ hk ⟨he,⟨J,hh⟩,hI⟩;simp only at he hh;subst he hh;simp only[TC,AB,AA,AF,AE,ZW];simp[Rgt.row];by_cases hlt:k <r.owners.length
 ·obtain⟨x,hx⟩:∃x,r.owners[k]?=some x:=⟨_,ATo hlt⟩;have hw:IntKind.i64.wrap ((k:Int)+1)=k+1:=AJ;have hpk:pL EF (λa b=>decide (a.party <b.party)) r.owners k=(EF x&&Fs (λa b=>decide (a.party <b.party)) r.owners k x):=by simp only[pL,hx]
  rw[if_pos (by omega),AD];simp only[AA,ZT];simp[hx,Own.V,AO,Aa];refine ACe r k x (ho x (ATq hx)) (J.length+1) _ (by rfl) hx (by omega) (by simp) _ ?_;intro e' f1 f8 f193;rw[←hpk]at f193;simp[f193];cases hp:pL EF (λa b=>decide (a.party <b.party)) r.owners k with
  |false=>
   have hnot:¬ ∀k <r.owners.length,pL EF (λa b=>decide (a.party <b.party)) r.owners k=true:=λh=>by rw[h k hlt]at hp;cases hp
   simp[AA,AG,ZS];exact hbad hnot _ rfl
  |true=>
   simp[AD,AA,f1,f8,ZV,hw,hlt];intro j hj;rcases AUD j k with h|h
   ·exact hI j h
   ·have:j=k:=by omega
    subst this;exact hp
 ·have:k=r.owners.length:=by omega
  subst this;rw[if_neg (by omega),AM];simp;exact hgo hI _ J rfl
theorem AIu (r:Rgt) (hl:r.lics.length≤2^30) (J0:List Row) (Q:AExit→St→Prop)
  (hgo:r.lics.all Fa=true→∀s,Q (.exit 6) s)
  (hbad:r.lics.all Fa=false→∀s,AH s.e 2= .v (.bool false)→Q .ret s):
  awp Tryz.prog GLx (.loop TB) Q ⟨[(1,.ref 0 0),(10,.v (.int .i64 0))],r.row::J0⟩:=by
 refine Ae r.lics.length (λk s=>s.e=[(1,.ref 0 0),(10,.v (.int .i64 k))]∧(∃J,s.h=r.row::J)∧∀j <k,∀x,r.lics[j]?=some x→Fa x=true) ⟨rfl,⟨J0,rfl⟩,by simp⟩ ?_;rintro k ⟨se,sh⟩ hk ⟨he,⟨J,hh⟩,hI⟩;simp only at he hh;subst he hh;simp only[TB,AB,AA,AF,AE,ZR];simp[Rgt.row];by_cases hlt:k <r.lics.length
 ·obtain⟨x,hx⟩:∃x,r.lics[k]?=some x:=⟨_,ATo hlt⟩;have hw:IntKind.i64.wrap ((k:Int)+1)=k+1:=AJ;rw[if_pos (by omega),AD];simp only[AA,ZP];simp[hx,Lic.V,AO];refine ACd x (J.length+1) _ (by simp) _ _ ?_;intro e' f1 f10 f228;simp[f228];cases hp:Fa x with
  |false=>
   have hnot:r.lics.all Fa=false:=by
    rw[List.all_eq_false];exact⟨x,ATq hx,by rw[hp];decide⟩
   simp[AA,AG,ZO];exact hbad hnot _ rfl
  |true=>
   simp[AD,AA,f1,f10,ZQ,hw,hlt];intro j hj y hy;rcases AUD j k with h|h
   ·exact hI j h y hy
   ·have:j=k:=by omega
    subst this;rw[hx]at hy;cases hy;exact hp
 ·have:k=r.lics.length:=by omega
  subst this;rw[if_neg (by omega),AM];simp;refine hgo ?_ _;rw[vb,decide_eq_true_eq];exact hI
def AD7:AC:=(.seq (.reg ZN [1,3,4]) (.seq (.seq (.reg ZM [1,3,4,5]) (.block 0 (.loop TE))) (.seq (.seq (.reg Pt [1,3,7]) (.block 2 (.loop TD))) (.seq (.seq (.reg Pq [1,8]) (.block 4 (.loop TC))) (.seq (.seq (.reg Po [1,10]) (.block 6 (.loop TB))) (.seq (.reg Pm [2]) .ret))))))
theorem AD8:c49=(.seq (.reg Zd [1]) (.seq (.reg Zc [1,3]) (.seq (.seq (.reg ZU [1,3,48]) (.cond (.t 48 false) (.seq (.reg JF [2]) .ret) .skip)) AD7))):=rfl
set_option maxHeartbeats 1000000 in
theorem p49 (r:Rgt) (hr:r.ok):PX 49 [r.V] [.bool (At r)]:=by
 refine AK k49 rfl ?_;obtain⟨R,hR⟩:∃R,At r=R:=⟨_,rfl⟩;rw[hR];unfold At at hR;have hlc:=hr.lc;have p1:=(JN r.file 0 4095).fsp;have p2:=(JN r.state 0 4).fsp;have p3:=(JN r.force 0 4).fsp;have p4:=(AQv r.claims hr.claims (by omega)).fsp;have hD:=VW r.claims.length r.dates;have hB:=N6 (λi=>inI i 0 (r.claims.length-1)) (λa b=>decide (a <b)) r.bad;have hO:=N6 EF (λa b=>decide (a.party <b.party)) r.owners;rw[hD,hB,hO]at hR;simp at p1 p2 p3 p4;rw[AD8];simp only[AB,AA,AF,AE,Zd,Zc,AY];simp[Rgt.V,Rgt.cs];generalize inI r.file 0 4095=A1 at*;generalize inI r.state 0 4=A2 at*;generalize inI r.force 0 4=A3 at*;generalize CL r.claims=A4 at*;simp only[ZU];simp;refine⟨_,_,p1 _,?_⟩;cases A1 with
 |false=>simp at hR;simp[AB,AA,AG,JF,Ih,hR]
 |true=>
 simp;refine⟨_,_,p2 _,?_⟩;cases A2 with
 |false=>simp at hR;simp[AB,AA,AG,JF,Ih,hR]
 |true=>
 simp;refine⟨_,_,p3 _,?_⟩;cases A3 with
 |false=>simp at hR;simp[AB,AA,AG,JF,Ih,hR]
 |true=>
 simp;refine⟨_,_,p4 _,?_⟩;by_cases h4:A4=0
 case neg=>
  have hf:R=false:=by rw[←hR];simp[h4]
  simp[h4,AB,AA,AG,JF,Ih,hf]
 subst h4;by_cases h5:4096 <r.dates.length
 ·have h5':4096 <(r.dates.length:Int):=by omega
  have hf:R=false:=by rw[←hR];simp[show ¬r.dates.length≤4096 by omega]
  simp[h5',AB,AA,AG,JF,Ih,hf]
 have h5':¬4096 <(r.dates.length:Int):=by omega
 by_cases h6:4096 <r.lics.length
 ·have h6':4096 <(r.lics.length:Int):=by omega
  have hf:R=false:=by rw[←hR];simp[show ¬r.lics.length≤4096 by omega]
  simp[h5',h6',AB,AA,AG,JF,Ih,hf]
 have h6':¬4096 <(r.lics.length:Int):=by omega
 have e5:decide (r.dates.length≤4096)=true:=by simpa using h5
 have e6:decide (r.lics.length≤4096)=true:=by simpa using h6
 rw[e5,e6]at hR;simp only[beq_self_eq_true,AVk,AUS]at hR;simp[h5',h6',AD];have fin:∀e,AH e 1= .ref 0 0→AH e 3= .v (.int .i64 r.claims.length)→awp Tryz.prog GLx AD7 (λe s=>(match e with| .exit _=>False|_=>True)∧B8 s Ih=some [.bool R]) ⟨e,[r.row]⟩:=by
  intro e f1 f3;unfold AD7;simp only[AB,AA,AF,ZN,ZM];simp[f1,f3];refine AIx r r.claims.length hlc hr.ld [] _ ?_ ?_
  ·intro hd e J g1 g3;rw[decide_eq_true hd,AUS]at hR;simp[Pt,g1,g3];refine AIw r r.claims.length hlc hr.lb J _ ?_ ?_
   ·intro hb e g1;rw[decide_eq_true hb,AUS]at hR;simp[Pq,g1];refine AIv r hr.owners hr.lo J _ ?_ ?_
    ·intro ho e J2 g1;rw[decide_eq_true ho,AUS]at hR;simp[Po,g1];refine AIu r hr.ll J2 _ ?_ ?_
     ·intro hl s;rw[hl]at hR;simp[Pm,AG,Ih,←hR]
     ·intro hl s hs;rw[hl]at hR;simp[Ih,hs,←hR]
    ·intro ho s hs;rw[decide_eq_false ho,AVY]at hR;simp[Ih,hs,←hR]
   ·intro hb s hs;rw[decide_eq_false hb]at hR;simp at hR;simp[Ih,hs,←hR]
  ·intro hd s hs;rw[decide_eq_false hd]at hR;simp at hR;simp[Ih,hs,←hR]
 exact fin _ rfl rfl
def HV:V:= .list [.list [],.list [.int .i64 0],.list [.int .i64 0],.list [.int .i64 1,.int .i64 2],.list [],.list [.int .i64 4]]
theorem p16:PX 16 [] [HV]:=by
 refine AK k16 rfl ?_;simp[c16,AB,AA,AG,ABT,ABS,AOG,AY,HV]
def F2 (n:Int):Int:=([0,7,8,4095,2047][n.toNat]?).getD 0
def CR (l:List Int) (i:Nat):Rgt:=
 let r:=DV (l.drop (min l.length (1+4*i)))
 {r with file:=F2 ((i+Ab l 0 5).tmod 5),force:=if i%2=0 then 0 else r.force}
def Ad (l:List Int):List Rgt:=((List.range (Ab l 0 5).toNat).map (CR l)).filter At
theorem Iz (l:List Int) (i:Nat):(CR l i).tiny 3:=by
 have h:=O4 (l.drop (min l.length (1+4*i)));refine⟨?_,h.state,?_,h.claims,h.dates,h.bad,h.owners,h.lics,h.lc,h.ld,h.lb,h.lo,h.ll⟩
 ·simp only[CR,F2];generalize ((i+Ab l 0 5).tmod 5).toNat=k
  match k with
  |0|1|2|3|4=>simp[i64]
  |k+5=>simp[i64]
 ·simp only[CR];split
  ·simp[i64]
  ·exact h.force
def AHg:AC:=(.seq (.reg sU [0,3,4,5,6]) (.seq (.reg sT [0,3,4,5,6]) (.seq (.seq (.reg Uw [0,3,4,5,6,34]) (.cond (.t 34 false) (.reg sS [0,3,4,5,6]) .skip)) (.seq (.reg NT [0,3,4,5,6,7]) (.seq (.reg Iq [0,3,4,5,6,38]) (.cond (.t 38 false) (.reg NS [0,3,4,5]) .skip))))))
theorem sY:ACE=(.seq (.seq (.reg sW [0,3,4,5,12]) (.cond (.t 12 false) .skip (.exit 0))) (.seq (.block 1 AHg) (.reg sV [0,3,4,5]))):=rfl
theorem ARW (l:List Int) (n:Int) (k:Nat) (A:List Rgt) (J:List Row) (hk:k <n.toNat) (hn5:n <5) (hA:A.length≤k) (S Q:Rgt)
  (hr:Q={S with file:=F2 ((k+n).tmod 5),force:=if k%2=0 then 0 else S.force})
  (p2:PX 48 [AL .i64 (l.drop (min l.length (1+4*k)))] [S.V])
  (p3:PX 49 [Q.V] [.bool (At Q)]) (K:AExit→St→Prop)
  (hK:∀e J',AH e 0= .v (AL .i64 l)→AH e 3= .own 32 8 ((A++(if At Q then [Q] else [])).map Rgt.V)→AH e 4= .v (.int .i64 n)→AH e 5= .v (.int .i64 k)→K .normal ⟨e,J'⟩):
  ∀e,AH e 0= .v (AL .i64 l)→AH e 3= .own 32 8 (A.map Rgt.V)→AH e 4= .v (.int .i64 n)→AH e 5= .v (.int .i64 k)→awp Tryz.prog GLx AHg K ⟨e,J⟩:=by
 intro e f0 f3 f4 f5;have v2:IntKind.i64.wrap (4*(k:Int))=4*k:=AJ;have v3:IntKind.i64.wrap (1+4*(k:Int))=1+4*k:=AJ;have v4:IntKind.i64.wrap ((k:Int)+n)=k+n:=AJ;have hroom:Ah (A.length+1) 144=true:=by simp[Ah];omega
 have hmin:(if 1+4*(k:Int) <(l.length:Int) then 1+4*(k:Int) else (l.length:Int))=(min l.length (1+4*k):Nat):=by split<;>omega
 have p2:=p2.fsp;have p3:=p3.fsp;have hlen:min l.length (1+4*k)≤l.length:=Nat.min_le_left _ _;generalize min l.length (1+4*k)=m at*;simp[AL,Rgt.V,Rgt.cs]at p2 p3 f0;unfold AHg;simp only[AB,AA,AE,sU];have htk:(l.map (V.int .i64)).take l.length=l.map (V.int .i64):=AUG (by simp);simp[v2,v3,AL,hmin,hlen,Rgt.V,Rgt.cs,htk,f0,f3,f4,f5];refine⟨_,_,p2 _,?_⟩;have t0:0≤((k:Int)+n).tmod 5:=AWL _ (by omega);have t1:([V.int .i64 0,V.int .i64 7,V.int .i64 8,V.int .i64 4095,V.int .i64 2047])[(((k:Int)+n).tmod 5).toNat]?=some (.int .i64 (F2 (((k:Int)+n).tmod 5))):=by
  have t2:=Vy ((k:Int)+n) 5 (by decide);unfold F2;obtain⟨q,hq⟩:∃q,(((k:Int)+n).tmod 5).toNat=q:=⟨_,rfl⟩;rw[hq];have:q <5:=by omega
  match q,this with
  |0,_|1,_|2,_|3,_|4,_=>rfl
 generalize F2 (((k:Int)+n).tmod 5)=fl at*;simp[AO,sT,v4,t0,t1,f0,f3,f4,f5];have hcl:∀f:Int,Q.claims=S.claims∧Q.dates=S.dates∧Q.bad=S.bad∧Q.owners=S.owners∧Q.lics=S.lics∧Q.file=fl∧Q.state=S.state∧Q.force=if k%2=0 then 0 else S.force:=by subst hr;simp
 obtain⟨e1,e2,e3,e4,e5,e6,e7,e8⟩:=hcl 0;rw[e1,e2,e3,e4,e5,e6,e7,e8]at p3;have hk2:(k:Int).tmod 2=0↔k%2=0:=by rw[AWa (by omega)];omega
 by_cases h2:k%2=0
 ·rw[if_pos h2]at p3 e8;have h2':=hk2.2 h2;simp[Uw,f0,f3,f4,f5,h2',AA,sS,AO,NT,D.vs?,D.v?];refine⟨_,_,(p3 _),?_⟩;cases hf:At Q with
  |false=>
   rw[hf]at hK;simp[Iq,f0,f3,f4,f5,AD];exact hK _ _ (by simp[AL]) (by simp) (by simp) (by simp)
  |true=>
   rw[hf]at hK;simp[Iq,f0,f3,f4,f5,AA,NS,hroom,D.vs?,D.v?];exact hK _ _ (by simp[AL]) (by simp[Rgt.V,Rgt.cs,e1,e2,e3,e4,e5,e6,e7,e8,AL]) (by simp) (by simp)
 ·rw[if_neg h2]at p3 e8;have h2':¬(k:Int).tmod 2=0:=λh=>h2 (hk2.1 h);simp[Uw,f0,f3,f4,f5,h2',AD,AO,AA,NT,D.vs?,D.v?];refine⟨_,_,(p3 _),?_⟩;cases hf:At Q with
  |false=>
   rw[hf]at hK;simp[Iq,f0,f3,f4,f5,AD];exact hK _ _ (by simp[AL]) (by simp) (by simp) (by simp)
  |true=>
   rw[hf]at hK;simp[Iq,f0,f3,f4,f5,AA,NS,hroom,D.vs?,D.v?];exact hK _ _ (by simp[AL]) (by simp[Rgt.V,Rgt.cs,e1,e2,e3,e4,e5,e6,e7,e8,AL]) (by simp) (by simp)
theorem p10 (l:List Int):PX 10 [AL .i64 l] [.list ((Ad l).map Rgt.V)]:=by
 refine AK k10 rfl ?_;have p1:=(p47 l 0 5 (by decide)).fsp;have hn:=Dh l 0 5 (by decide);have hrf:∀i:Nat,CR l i={DV (l.drop (min l.length (1+4*i)))with file:=F2 ((i+Ab l 0 5).tmod 5),force:=if i%2=0 then 0 else (DV (l.drop (min l.length (1+4*i)))).force}:=λ_=>rfl;have hres:Ad l=((List.range (Ab l 0 5).toNat).map (CR l)).filter At:=rfl;generalize Ad l=R at*;generalize Ab l 0 5=n at*;simp[AL]at p1;simp only[c10,AB,AA,AF,ACD,ACC,AY];simp[ACB,AL];refine⟨_,_,p1 _,?_⟩;simp[ACA];refine Ae n.toNat (λk s=>s.e=[(0,.v (AL .i64 l)),(3,.own 32 8 ((((List.range k).map (CR l)).filter At).map Rgt.V)),(4,.v (.int .i64 n)),(5,.v (.int .i64 k))]) (by simp[AL]) ?_;rintro k ⟨se,sh⟩ hk he;simp only at he;subst he;simp only[sY,AB,AA,AF,AE,sW];simp;by_cases hlt:k <n.toNat
 ·have v1:IntKind.i64.wrap ((k:Int)+1)=k+1:=AJ;have v2:IntKind.i64.wrap (4*(k:Int))=4*k:=AJ;have v3:IntKind.i64.wrap (1+4*(k:Int))=1+4*k:=AJ;have v4:IntKind.i64.wrap ((k:Int)+n)=k+n:=AJ;have hr:=hrf k;have hle:(((List.range k).map (CR l)).filter At).length≤k:=by have:=AUi At ((List.range k).map (CR l));simpa using this
  have hsucc:((List.range (k+1)).map (CR l)).filter At=((List.range k).map (CR l)).filter At++(if At (CR l k) then [CR l k] else []):=by
   rw[AUk,AUN,AVO];simp[AVP]
  rw[hsucc];have p2:=p48 (l.drop (min l.length (1+4*k)));have p3:=p49 (CR l k) ((Iz l k).ok (by decide));generalize ((List.range k).map (CR l)).filter At=A at*;generalize CR l k=Q at*;generalize DV (l.drop (min l.length (1+4*k)))=S at*;rw[if_pos (by omega),AD];simp only[AF];refine ARW l n k A _ hlt hn.2 hle S Q hr p2 p3 _ ?_ _ (by simp[AL]) (by simp) (by simp) (by simp);intro e J' f0 f3 f4 f5;simp only[AL]at f0;simp only[AA];simp[sV,v1,hlt,f0,f3,f4,f5,AL];omega
 ·have:k=n.toNat:=by omega
  subst this;rw[if_neg (by omega),AM];simp[sX,AG,AO3,hres]
theorem J8 {α:Type} {l:List α} {k:Nat} {x:α} (h:l[k]?=some x) (f:α→V):(l.map f).take (k+1)=(l.map f).take k++[f x]:=by
 rw[AUE,AT0,h];rfl
theorem l46 (Z:List D):
  awp Tryz.prog GLx (.loop Zy) (λe s=>e= .exit 0∧AH s.e 5= .ref 0 0∧s.h=[.cells (.own 22 1 (DF.map (AL .i64))::Z)])
   ⟨[(4,.v (.int .i64 6)),(5,.ref 0 0),(14,.v (.list (DF.map (AL .i64)))),(15,.v (.int .i64 6)),(16,.v (.int .i64 0))],[.cells (.own 22 1 []::Z)]⟩:=by
 refine Ac 6 (λk=>⟨[(4,.v (.int .i64 6)),(5,.ref 0 0),(14,.v (.list (DF.map (AL .i64)))),(15,.v (.int .i64 6)),(16,.v (.int .i64 k))],[.cells (.own 22 1 ((DF.take k).map (AL .i64))::Z)]⟩) (by simp) ?_;intro k hk;simp only[Zy,AB,AA,AF,AE,zz];simp;have hp6:DF.length=6:=rfl;by_cases hlt:k <6
 ·obtain⟨ps,hps⟩:∃ps,DF[k]?=some ps:=⟨_,ATo (by omega)⟩;have hmem:=ATq hps;have p1:=(AIe ps hmem).fsp;have p2:=(AId ps hmem).fsp;have p3:=AIc ps hmem;have hw:IntKind.i64.wrap ((k:Int)+1)=k+1:=AJ;have e:=J8 hps (AL .i64);have hm:min k DF.length=k:=by omega
  have hroom:Ah (k+1) 24=true:=by simp[Ah];omega
  generalize DF=par at*;rw[if_pos (by omega),AD];simp only[AA,zy];simp only[AL]at p1 p2 p3 e;simp at p1 p2;simp[hps,AL];simp only[zx];simp;refine⟨_,_,(p1 _),?_⟩;simp;refine⟨_,_,(p2 _),?_⟩;simp[AD,Aa,Zx];refine⟨_,_,⟨rfl,rfl⟩,_,p3,?_⟩;simp[hm,hroom,AO,Zw,hw,hlt,e]
 ·have:k=6:=by omega
  subst this;rw[if_neg (by omega),AM];have:(DF.map (AL .i64)).take 6=DF.map (AL .i64):=rfl;simp[this]
def zb:List Bool:=List.replicate 4096 false
def zD:List D:=List.replicate 4096 (.v (.bool false))
theorem AH1:zD=zb.map bv:=by rw[zD,zb,List.map_replicate]
theorem ACH:zD.map D.toRow=zD:=by rw[zD,List.map_replicate];rfl
theorem Vr:zb.length=4096:=by rw[zb,List.length_replicate]
def Zt:List GI:=[⟨none,.p 12 (.build (.nil 22 1::zD) [])⟩,⟨none,.box 13 (.t 12 false)⟩,⟨none,.mv 5 (.t 13 false)⟩]
theorem Zr:z7=Zt:=rfl
theorem p46:FX 46 [.v (.list (DF.map (AL .i64)))] [] [.ref 0 0,.v (.int .i64 0)] (Bh (CQ 6 zb) (tfs 6) (tfs 6)):=by
 refine AN k46 rfl ?_;have q:=l46 zD;have q2:=AQx zb Vr;rw[txR,←AH1,Ft]at q2;generalize Bh (CQ 6 zb) (tfs 6) (tfs 6)=HH at*;have hp6:DF.length=6:=rfl;have hz:=ACH;simp only[c46,AB,AA,AF,AE,AAB,AAA,AQ];rw[Zr];unfold Zt;generalize zD=Z at*;generalize DF=par at*;simp[hp6,z8,AD];simp[hz,z6,hp6];refine AX _ ?_ q;rintro e ⟨se,sh⟩ ⟨rfl,f5,hh⟩;simp only at f5 hh;subst hh;simp[Zv,f5];refine⟨_,_,q2,?_⟩;simp[AD,Zu,AG,ALt,f5]
theorem p9:FX 9 [] [] [.ref 0 0] [.dead]:=by
 have key:FX 9 [] [] [.ref 0 0] [txR (CQ 6 zb)]:=by
  refine As k9 rfl (by simp) ?_ ?_ ?_
  ·intro row hrow;simp only[ATy]at hrow;subst hrow;simp only[txR,Row.low];refine D1 λd hd=>?_;rcases ATt.1 hd with rfl|hd
   ·rfl
   ·obtain⟨b,-,rfl⟩:=ATw.1 hd;rfl
  ·intro d hd;simp only[ATy]at hd;subst hd;rfl
  have q1:=p16.fsp;have q2:=p46;have e:HV= .list (DF.map (AL .i64)):=rfl;rw[e]at q1;have hJ:∃J,Bh (CQ 6 zb) (tfs 6) (tfs 6)=[txR (CQ 6 zb)]++J:=⟨_,rfl⟩;generalize Bh (CQ 6 zb) (tfs 6) (tfs 6)=HH at*;generalize txR (CQ 6 zb)=TX at*;generalize DF=par at*;simp at q1 hJ;simp only[c9,AB,AA,AE,ADZ,ADY,AQ];simp;refine⟨_,_,(q1 _),?_⟩;simp;refine⟨_,_,q2,?_⟩;simp[ADX,AD,ADW,AG,c9R,hJ]
 exact key.kill 0
end Go.Va
