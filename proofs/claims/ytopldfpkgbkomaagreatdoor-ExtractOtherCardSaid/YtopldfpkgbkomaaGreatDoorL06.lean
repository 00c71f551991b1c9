/- Part 6 of the proof that ExtractOther returns true for every input and leaves its arguments alone. Condition: the variable that the row lists holds what the text of the program lays. Texts joined here: VwR VwP VwS VwT VwU VwFa VwFb VwFc VwFd VwFe VaU VwV VwW VwX VwY VwZ VsD VwD VwDa VwDb VwDc VwDd VwCa VwCb VwCe VwCf VwCg VwCh VwCi VwCj VwCk VwDe VwFf. -/
import Derived.Test.YtopldfpkgbkomaaGreatDoorL02
import Derived.Test.YtopldfpkgbkomaaGreatDoorL03
import Derived.Test.YtopldfpkgbkomaaGreatDoorL05
set_option linter.all false
set_option maxRecDepth 100000
namespace Go.Va
open Go.Proofs
theorem TH (n:Nat):((n:Int)==0)=(n==0):=by rw[AU3];simp
theorem Jm (n:Nat):((n:Int)==1)=(n==1):=by rw[AU3];simp;omega
def Jb (f:F):Bool:=decide ((f.op≠2∧0 <f.ins.length)∨(f.op≠2∧f.op≠1∧f.n≠0))
set_option maxHeartbeats 2000000 in
theorem AKM (f:F) (Q:AExit→St→Prop) (hQ:Q .normal ⟨[(1,.ref 0 0),(26,.v (.bool (Jb f)))],[.cells f.cells]⟩):
  awp Tryz.prog GLx (.reg Qk [1,26]) Q ⟨[(1,.ref 0 0)],[.cells f.cells]⟩:=by
 obtain⟨B,hB⟩:∃B,Jb f=B:=⟨_,rfl⟩;rw[hB]at hQ;obtain⟨op,n,ins,kids⟩:=f;simp only[F.cells,Jb,F.op,F.n,F.ins,F.kids]at*;rw[AA];simp only[Qk];by_cases h2:op=2
 ·subst h2;simp at hB;subst hB;simpa using hQ
 ·by_cases hl:0 <ins.length
  ·have hl':0 <(ins.length:Int):=by omega
   simp[h2,hl]at hB;subst hB;simp[h2,hl,hl'];exact hQ
  ·have hl':¬0 <(ins.length:Int):=by omega
   have hl2:ins=[]:=by cases ins<;>simp_all
   subst hl2;by_cases h1:op=1
   ·subst h1;simp at hB;subst hB;simpa using hQ
   ·by_cases hn:n=0
    ·subst hn;simp at hB;subst hB;simp[h2,h1];exact hQ
    ·have hn2:(n != 0)=true:=by simpa using hn
     simp[h2,h1,hn]at hB;subst hB;simp[h2,h1,hn2];exact hQ
theorem JK {f:F} (h:Jb f=true):Aw f=false:=by
 unfold Aw;unfold Jb at h;rw[if_pos (of_decide_eq_true h)]
theorem Hx {f:F} (h:Jb f=false):Aw f=if f.op=0 then f.kids.length==0
 else if f.op=1 then decide (f.kids.length=0∧0≤f.n∧f.n <64)
 else if f.op=2 then decide (f.kids.length=0∧0≤f.n∧f.n <32∧Fn f.ins=0)
 else if f.op=3∨f.op=6 then f.kids.length==1
 else decide (f.op=4∨f.op=5):=by
 unfold Aw;unfold Jb at h;rw[if_neg (of_decide_eq_false h)]
set_option maxHeartbeats 4000000 in
theorem APW (f:F) (hf:f.ok1):PX 322 [f.V] [.bool (Aw f)]:=by
 refine AK ARz rfl ?_;obtain⟨R,hR⟩:∃R,Aw f=R:=⟨_,rfl⟩;rw[hR];have hp:=(APQ f.ins hf.2.2.1 hf.2.2.2).fsp;unfold AMz;rw[AB,AA];obtain⟨op,n,ins,kids⟩:=f;simp only[F.V_eq,F.op,F.n,F.ins,F.kids]at*;simp[dy,AY];rw[AB,AB];have ha:=AKM ⟨op,n,ins,kids⟩;simp only[F.cells,F.op,F.n,F.ins,F.kids]at ha;refine ha _ ?_;simp[AE];cases ho:Jb ⟨op,n,ins,kids⟩with
 |true=>
  rw[JK ho]at hR;simp[AB,AA,AF,dx,G8,hR]
 |false=>
  rw[Hx ho]at hR;simp only[F.op,F.n,F.ins,F.kids]at hR;simp only[AD,if_neg AWV];simp only[AB,AA,AG,AE,dw,dv];simp;by_cases h0:op=0
  ·subst h0;simp at hR;simp[AF,AB,AA,du,G8,TH,hR]
  ·simp only[h0,if_false]at hR;simp[h0,AB,AA,AE,dt];by_cases h1:op=1
   ·subst h1;simp at hR;simp[AF,AB,AA,dq];by_cases hk:kids.length=0
    ·have hk2:kids=[]:=AWX.1 hk;subst hk2;by_cases b1:0≤n<;>by_cases b2:n <64<;>simp[b1,b2]at hR<;>simp[b1,b2,G8,hR]
    ·have hk2:¬kids=[]:=λh=>hk (by rw[h];rfl);simp[hk2]at hR;simp[hk,hk2,G8,hR]
   ·simp only[h1,if_false]at hR;simp[h1,AB,AA,AE,dm];by_cases h2:op=2
    ·subst h2;simp at hR;simp[AF,AB,AA,dl];by_cases hk:kids.length=0
     ·have hk2:kids=[]:=AWX.1 hk;subst hk2;by_cases b1:0≤n<;>by_cases b2:n <32<;>simp[b1,b2]at hR<;>simp[b1,b2,G8,hR]
      refine⟨_,_,hp _,?_⟩;simp;rw[←hR,AU3];simp
     ·have hk2:¬kids=[]:=λh=>hk (by rw[h];rfl);simp[hk2]at hR;simp[hk,hk2,G8,hR]
    ·simp only[h2,if_false]at hR;simp[h2,AB,AA,AE,UP];by_cases h3:op=3
     ·subst h3;simp at hR;simp[AD,AF,AB,AA,Mk,G8,Jm,hR]
     ·simp[h3,AD,AA,UO];by_cases h6:op=6
      ·subst h6;simp at hR;simp[AD,AF,AB,AA,Mk,G8,Jm,hR]
      ·simp[h3,h6]at hR;simp[h6,AD,AA,AF,UN];by_cases h4:op=4<;>by_cases h5:op=5<;>simp[h4,h5]at hR<;>simp[h4,h5,G8,hR]
def D2 (f:F):Bool:=f.nodes.all Aw
theorem V6 (op n:Int) (ins:List Ivl) (kids:List F):D2 (.mk op n ins kids)=(Aw (.mk op n ins kids)&&kids.all D2):=by
 unfold D2;rw[F.nodes_eq,AVl,List.all_flatMap]
theorem APm:∀f:F,f.ok→PX 287 [f.V] [.bool (D2 f)]:=by
 refine F.ind λop n ins kids ih hok=>?_;refine AK ASJ rfl ?_;obtain⟨R,hR⟩:∃R,D2 (.mk op n ins kids)=R:=⟨_,rfl⟩;rw[hR];rw[V6]at hR;have hsz:=hok.2;rw[F.size_eq]at hsz;have hkl:=F.kids_len kids;have hp:=(APW _ (F.ok1_self hok)).fsp;generalize Aw (.mk op n ins kids)=fm at*;simp only[ANH,AB,AA,AG,AE,gD,gC,AY];simp[F.V_eq]at hp ⊢;refine⟨_,_,hp _,?_⟩;cases fm with
 |false=>simp at hR;simp[AB,AA,AF,gB,UX,hR]
 |true=>
  simp only[AUh]at hR;simp[AD,AA,gA];refine BQ kids.length (λk=>⟨[(1,.ref 0 0),(3,.v (.int .i64 k))],[.cells (F.mk op n ins kids).cells]⟩) (λk=>∀x∈kids.take k,D2 x=true) (by simp[F.cells,F.op,F.n,F.ins,F.kids]) (by simp) ?_;intro k hk hI;simp only[gE,AB,AA,AG,AE,fz,F.cells,F.op,F.n,F.ins,F.kids];simp;by_cases h1:k <kids.length
  ·obtain⟨x,hx⟩:∃x,kids[k]?=some x:=⟨_,AT2 h1⟩;have hxm:=AT3 hx;have hw:IntKind.i64.wrap ((k:Int)+1)=k+1:=AJ;have p1:=(ih x hxm (F.ok_kid hok hxm)).fsp;rw[if_pos (by omega),AD];simp only[AA,fx];cases hwx:D2 x with
   |false=>
    have:kids.all D2=false:=by rw[List.all_eq_false];exact⟨x,hxm,by simp[hwx]⟩
    rw[this]at hR;obtain⟨xo,xn,xi,xk⟩:=x;simp[F.V_eq,hwx]at p1;simp[hx,F.V_eq];refine⟨_,_,p1 _,?_⟩;simp[AE,AB,AA,AF,fw,UX,hR]
   |true=>
    have ht:∀y∈kids.take (k+1),D2 y=true:=by
     rw[AUP,hx];intro y hy;simp at hy;rcases hy with hy|rfl
     ·exact hI y hy
     ·exact hwx
    obtain⟨xo,xn,xi,xk⟩:=x;simp[F.V_eq,hwx]at p1;simp[hx,F.V_eq];refine⟨_,_,p1 _,?_⟩;simp[AE,AD,AA,fy,hw,h1];exact ht
  ·have hk2:k=kids.length:=by omega
   subst hk2;rw[if_neg (by omega),AM];have:kids.all D2=true:=by rw[AUI];simpa using hI
   rw[this]at hR;simp[AA,AF,AB,fv,UX,hR]
theorem AQV (f:F) (hok:f.ok):PX 214 [f.V] [.int .i64 (BM f)]:=by
 refine AK ASv rfl ?_;obtain⟨R,hR⟩:∃R,BM f=R:=⟨_,rfl⟩;rw[hR];unfold BM at hR;have e:f.nodes.all Aw=D2 f:=rfl;rw[e]at hR;have h1:=(APo f hok).fsp;have h2:=(APn f hok).fsp;have h3:=(APm f hok).fsp;obtain⟨op,n,ins,kids⟩:=f;simp only[ANw,AB,AA,AG,AE,mt,mr,AY];simp[F.V_eq]at h1 h2 h3 ⊢;refine⟨_,_,h1 _,?_⟩;generalize F.size (.mk op n ins kids)=sz at*;generalize F.depth (.mk op n ins kids)=dp at*;by_cases b1:96 <sz
 ·have b1':96 <(sz:Int):=by omega
  simp[b1]at hR;simp[b1',AB,AA,AF,RX,PC,hR]
 ·have b1':¬96 <(sz:Int):=by omega
  simp[b1'];refine⟨_,_,h2 _,?_⟩;by_cases b2:8 <dp
  ·have b2':8 <(dp:Int):=by omega
   simp[b2]at hR;simp[b2',AB,AA,AF,RX,PC,hR]
  ·have b2':¬8 <(dp:Int):=by omega
   simp[b1,b2]at hR;simp[b2',AD,AA,mq];refine⟨_,_,h3 _,?_⟩;cases hw:D2 (.mk op n ins kids)with
   |false=>simp[hw]at hR;simp[AE,AB,AA,AF,mn,PC,hR]
   |true=>simp[hw]at hR;simp[AE,AD,AB,AA,AF,mm,PC,hR]
def IdxR (P:Program) (GL:AX) (fid:Nat) (caps:List D):List V→List Row→Option Nat→List Row→Prop
 |[],h,r,h'=>r=none∧h'=h
 |x::xs,h,r,h'=>∃b h1,FSp P GL fid (.v x::caps) h [.v (.bool b)] h1∧if b then r=some 0∧h'=h1 else ∃r',IdxR P GL fid caps xs h1 r' h'∧r=r'.map (· +1)
def Dj:Option Nat→Int
 |none=> -1
 |some k=>k
theorem IdxR.pure {P:Program} {GL:AX} {fid:Nat} {caps:List D} {p:V→Bool} {xs:List V} (hp:∀x∈xs,∀h,FSp P GL fid (.v x::caps) h [.v (.bool (p x))] h) (h:List Row):IdxR P GL fid caps xs h (xs.findIdx? p) h:=by
 induction xs with
 |nil=>exact⟨rfl,rfl⟩
 |cons x xs ih=>
  refine⟨p x,h,hp x (by simp) h,?_⟩;cases hx:p x with
  |true=>simp[AUy,hx]
  |false=>
   simp only[AUF,if_false];exact⟨_,ih λy hy=>hp y (by simp[hy]),by simp[AUy,hx]⟩
theorem CU {α:Type} (p:α→Bool) (xs:List α):(xs.findIdx? p).isSome=xs.any p:=by
 induction xs with
 |nil=>rfl
 |cons x xs ih=>
  cases hx:p x with
  |true=>simp[AUy,hx]
  |false=>simp only[AUy,hx,List.any_cons,Bool.false_or,AUF,if_false,Option.isSome_map];exact ih
theorem TT (r:Option Nat):(0≤Dj r)↔r.isSome=true:=by
 cases r with
 |none=>simp[Dj]
 |some k=>simp[Dj]
structure FV (fd:D) (fid:Nat) (caps:List D):Prop where
 cp:fd.copy=fd
 fn:Db fd=some (fid,caps)
 nm:fd.norm=fd
 ny:∀r,fd≠ .yld r
 nt:∀a b,fd≠ .meth a b
theorem FV.v (fid:Nat) (vs:List V):FV (.v (.func fid vs)) fid (vs.map .v):=⟨rfl,rfl,rfl,(λ_ h=>by cases h),(λ_ _ h=>by cases h)⟩
theorem FV.r (fid r o:Nat) (caps:List D):FV (.func fid (.ref r o::caps)) fid (.ref r o::caps):=by
 have e:D.norm (.func fid (.ref r o::caps))= .func fid (.ref r o::caps):=by simp[D.norm,D.vs?,D.v?]
 exact⟨rfl,by unfold Db;rw[e],e,(λ_ h=>by cases h),(λ_ _ h=>by cases h)⟩
def okE (s:Nat):Bool→V→Prop
 |true,x=>∃cs,x= .agg cs∧cs.length=s
 |false,x=>s=1∧∃n,x= .int .i64 n
theorem lIa (s:Nat) (g:Bool) (fd:D) (fid:Nat) (caps:List D) (hf:FV fd fid caps) (all:List V) (m:Nat) (hm2:all.length=m) (hlen:m <2^40)
  (Q:AExit→St→Prop):∀(xs:List V) (k:Nat) (h:List Row) (r:Option Nat) (h':List Row),all.drop k=xs→k≤m→(∀x∈xs,okE s g x)→IdxR Tryz.prog GLx fid caps xs h r h'→
  (r=none→∀e,AH e 0= .v (.list all)→Q (.exit 0) ⟨e,h'⟩)→(∀j,r=some j→∀e,AH e 4= .v (.int .i64 ((k+j:Nat):Int))→Q .ret ⟨e,h'⟩)→
  awp Tryz.prog GLx (.loop (Wg s g)) Q ⟨[(0,.v (.list all)),(1,fd),(7,.v (.int .i64 m)),(8,.v (.int .i64 k))],h⟩:=by
 have hfn:=hf.nm;have hcp:=hf.cp;have hcp2:=hf.cp;simp only[D.copy]at hcp2;intro xs;induction xs with
 |nil=>
  rintro k h r h' hd hk hc ⟨rfl,rfl⟩ hn hs;have h0:m≤k:=by rw[←hm2];exact AWp.1 hd
  refine A9 ?_;simp only[Wg,AB,AA,AG,AE,vO];have h2:¬(k:Int) <m:=by omega
  simp[h2,AM];exact hn rfl _ rfl
 |cons x xs ih=>
  rintro k h r h' hd hk hc ⟨b,h1,hb,hr⟩ hn hs;have hx:all[k]?=some x:=by have:=congrArg (·[0]?) hd;simpa using this
  have hkl:k <m:=by rw[←hm2];exact(AT4.1 hx).1
  have hd':all.drop (k+1)=xs:=by have:=congrArg (List.drop 1) hd;simpa using this
  have hw:IntKind.i64.wrap ((k:Int)+1)=k+1:=AJ;have hkl':(k:Int) <m:=by omega
  have hcx:=hc x (by simp);have step:awp Tryz.prog GLx (Wg s g) (λe s'=>match e with| .normal=>b=false∧s'=⟨[(0,.v (.list all)),(1,fd),(7,.v (.int .i64 m)),(8,.v (.int .i64 (k+1:Nat)))],h1⟩| .ret=>b=true∧AH s'.e 4= .v (.int .i64 k)∧s'.h=h1| .exit _=>False) ⟨[(0,.v (.list all)),(1,fd),(7,.v (.int .i64 m)),(8,.v (.int .i64 k))],h⟩:=by
   cases g with
   |true=>
    obtain⟨cs,rfl,hcs⟩:=hcx;simp only[Wg,AB,AA,AG,AE,vO];simp[hkl',AD,AA,AFW,AFV,hx,hcp2,-BF,hcs];have hcall:∀(K:St→Prop) (e:Env),AH e 11=fd→AH e 15= .v (.agg cs)→K ⟨Bh e (some 16) (.v (.bool b)),h1⟩→BF Tryz.prog GLx (some 16) (.t 11 false) [.t 15 false] K ⟨e,h⟩:=by
     intro K e e1 e2 hK;unfold BF;have e3:(Opd.t 11 false).ev e=fd:=by simp only[Opd.ev,AUF,if_false,e1,hcp]
     rw[e3];split
     ·rename_i q;exact absurd rfl (hf.ny _)
     ·rename_i q;exact absurd rfl (hf.nt _ _)
     ·rw[hf.fn];refine⟨[.v (.bool b)],h1,?_,hK⟩;simpa[e2]using hb
    refine hcall _ _ ?_ ?_ ?_
    ·simp[hcp2]
    ·simp[AUc (Nat.le_of_eq hcs)]
    cases b with
    |false=>simp[AD,AE,AA,AFT,hw,hcp2]
    |true=>simp[AE,AB,AA,AF,AFU]
   |false=>
    obtain⟨rfl,y,rfl⟩:=hcx;simp only[Wg,AB,AA,AG,AE,vO];simp[hkl',AD,AA,AFW,AFV,hx,hcp2,-BF];have hcall:∀(K:St→Prop) (e:Env),AH e 11=fd→AH e 15= .v (.int .i64 y)→K ⟨Bh e (some 16) (.v (.bool b)),h1⟩→BF Tryz.prog GLx (some 16) (.t 11 false) [.t 15 false] K ⟨e,h⟩:=by
     intro K e e1 e2 hK;unfold BF;have e3:(Opd.t 11 false).ev e=fd:=by simp only[Opd.ev,AUF,if_false,e1,hcp]
     rw[e3];split
     ·rename_i q;exact absurd rfl (hf.ny _)
     ·rename_i q;exact absurd rfl (hf.nt _ _)
     ·rw[hf.fn];refine⟨[.v (.bool b)],h1,?_,hK⟩;simpa[e2]using hb
    refine hcall _ _ ?_ ?_ ?_
    ·simp[hcp2]
    ·simp
    cases b with
    |false=>simp[AD,AE,AA,AFT,hw,hcp2]
    |true=>simp[AE,AB,AA,AF,AFU]
  cases b with
  |false=>
   obtain⟨r',hr1,rfl⟩:=hr;refine Bl (Ag _ ?_ step) (ih (k+1) h1 r' h' hd' (by omega) (λy hy=>hc y (by simp[hy])) hr1 (λe=>hn (by rw[e];rfl)) ?_)
   ·intro e s' h;cases e with
    |normal=>exact h.2
    |exit i=>exact h.elim
    |ret=>cases h.1
   ·intro j e e1 e2;refine hs (j+1) (by rw[e];rfl) e1 ?_;rw[e2];congr 3;omega
  |true=>
   obtain⟨rfl,rfl⟩:=hr;refine A9 (Ag _ ?_ step);intro e s' h;cases e with
   |normal=>cases h.1
   |exit i=>exact h.elim
   |ret=>obtain⟨_,h2,h3⟩:=h;have:=hs 0 rfl s'.e h2;rw[←h3]at this;exact this
theorem pI {n s:Nat} {g:Bool} (hk:DO Tryz.prog GLx n 2 (cI s g) cIR=true) (fd:D) (fid:Nat) (caps:List D) (hf:FV fd fid caps) (xs:List V) (hlen:xs.length <2^40) (hc:∀x∈xs,okE s g x) {h h':List Row} {r:Option Nat} (hr:IdxR Tryz.prog GLx fid caps xs h r h'):
  FX n [.v (.list xs),fd] h [.v (.int .i64 (Dj r))] h':=by
 refine AV hk rfl ?_;have hcp:=hf.cp;simp only[D.copy]at hcp;simp only[cI,AB,AA,AG,ALn,ALm,AS];simp[hcp];refine lIa s g fd fid caps hf xs xs.length rfl hlen _ xs 0 h r h' rfl (AU6 _) hc hr ?_ ?_
 ·rintro rfl e he;simp[AA,AF,ALl,cIR,Dj]
 ·rintro j rfl e he;simp at he;simp[he,cIR,Dj]
theorem pJ {n f:Nat} (hk:DO Tryz.prog GLx n 2 (cJ f) cIR=true) (fd:D) (fid:Nat) (caps:List D) (hf:FV fd fid caps) (xs:List V) {h h':List Row} {r:Option Nat} (hp:FX f [.v (.list xs),fd] h [.v (.int .i64 (Dj r))] h'):
  FX n [.v (.list xs),fd] h [.v (.bool r.isSome)] h':=by
 refine AV hk rfl ?_;have hcp:=hf.cp;simp only[D.copy]at hcp;have hnm:=hf.nm;have hge:=TT r;simp only[cJ,AB,AA,AG,ALk,ALj,AS];simp[hcp,-D.norm];rw[hnm]
 first|refine⟨_,_,hp,?_⟩|refine⟨_,hp,?_⟩|refine⟨_,⟨_,hp⟩,?_⟩|exact⟨_,hp⟩|exact⟨_,_,hp⟩|refine⟨⟨_,hp⟩,?_⟩
 simp[AF,cIR,hge]
theorem AP4 (fd:D) (fid:Nat) (caps:List D) (hf:FV fd fid caps) (xs:List V) (hlen:xs.length <2^40) (hc:∀x∈xs,∃cs,x= .agg cs∧cs.length=4) {h h':List Row} {r:Option Nat} (hr:IdxR Tryz.prog GLx fid caps xs h r h'):
  FX 251 [.v (.list xs),fd] h [.v (.int .i64 (Dj r))] h':=pI ASb fd fid caps hf xs hlen hc hr
theorem AP3 (fd:D) (fid:Nat) (caps:List D) (hf:FV fd fid caps) (xs:List V) (hlen:xs.length <2^40) (hc:∀x∈xs,∃n,x= .int .i64 n) {h h':List Row} {r:Option Nat} (hr:IdxR Tryz.prog GLx fid caps xs h r h'):
  FX 252 [.v (.list xs),fd] h [.v (.int .i64 (Dj r))] h':=pI AKp fd fid caps hf xs hlen (λx hx=>⟨rfl,hc x hx⟩) hr
theorem AP2 (fd:D) (fid:Nat) (caps:List D) (hf:FV fd fid caps) (xs:List V) (hlen:xs.length <2^40) (hc:∀x∈xs,∃cs,x= .agg cs∧cs.length=3) {h h':List Row} {r:Option Nat} (hr:IdxR Tryz.prog GLx fid caps xs h r h'):
  FX 253 [.v (.list xs),fd] h [.v (.int .i64 (Dj r))] h':=pI ASa fd fid caps hf xs hlen hc hr
theorem AP1 (fd:D) (fid:Nat) (caps:List D) (hf:FV fd fid caps) (xs:List V) (hlen:xs.length <2^40) (hc:∀x∈xs,∃cs,x= .agg cs∧cs.length=3) {h h':List Row} {r:Option Nat} (hr:IdxR Tryz.prog GLx fid caps xs h r h'):
  FX 254 [.v (.list xs),fd] h [.v (.int .i64 (Dj r))] h':=pI ASZ fd fid caps hf xs hlen hc hr
theorem APw (fd:D) (fid:Nat) (caps:List D) (hf:FV fd fid caps) (xs:List V) (hlen:xs.length <2^40) (hc:∀x∈xs,∃cs,x= .agg cs∧cs.length=3) {h h':List Row} {r:Option Nat} (hr:IdxR Tryz.prog GLx fid caps xs h r h'):
  FX 272 [.v (.list xs),fd] h [.v (.int .i64 (Dj r))] h':=pI AKm fd fid caps hf xs hlen hc hr
theorem APt (fd:D) (fid:Nat) (caps:List D) (hf:FV fd fid caps) (xs:List V) (hlen:xs.length <2^40) (hc:∀x∈xs,∃cs,x= .agg cs∧cs.length=8) {h h':List Row} {r:Option Nat} (hr:IdxR Tryz.prog GLx fid caps xs h r h'):
  FX 275 [.v (.list xs),fd] h [.v (.int .i64 (Dj r))] h':=pI ASR fd fid caps hf xs hlen hc hr
theorem APb (fd:D) (fid:Nat) (caps:List D) (hf:FV fd fid caps) (xs:List V) (hlen:xs.length <2^40) (hc:∀x∈xs,∃cs,x= .agg cs∧cs.length=8) {h h':List Row} {r:Option Nat} (hr:IdxR Tryz.prog GLx fid caps xs h r h'):
  FX 307 [.v (.list xs),fd] h [.v (.int .i64 (Dj r))] h':=pI AR6 fd fid caps hf xs hlen hc hr
theorem APX (fd:D) (fid:Nat) (caps:List D) (hf:FV fd fid caps) (xs:List V) (hlen:xs.length <2^40) (hc:∀x∈xs,∃cs,x= .agg cs∧cs.length=4) {h h':List Row} {r:Option Nat} (hr:IdxR Tryz.prog GLx fid caps xs h r h'):
  FX 318 [.v (.list xs),fd] h [.v (.int .i64 (Dj r))] h':=pI AKf fd fid caps hf xs hlen hc hr
theorem APV (fd:D) (fid:Nat) (caps:List D) (hf:FV fd fid caps) (xs:List V) (hlen:xs.length <2^40) (hc:∀x∈xs,∃cs,x= .agg cs∧cs.length=4) {h h':List Row} {r:Option Nat} (hr:IdxR Tryz.prog GLx fid caps xs h r h'):
  FX 323 [.v (.list xs),fd] h [.v (.int .i64 (Dj r))] h':=pI AKe fd fid caps hf xs hlen hc hr
theorem uo (fd:D) (fid:Nat) (caps:List D) (hf:FV fd fid caps) (xs:List V) (hlen:xs.length <2^40) (hc:∀x∈xs,∃cs,x= .agg cs∧cs.length=4) {h h':List Row} {r:Option Nat} (hr:IdxR Tryz.prog GLx fid caps xs h r h'):
  FX 149 [.v (.list xs),fd] h [.v (.bool r.isSome)] h':=pJ ATJ fd fid caps hf xs (AP4 fd fid caps hf xs hlen hc hr)
theorem un (fd:D) (fid:Nat) (caps:List D) (hf:FV fd fid caps) (xs:List V) (hlen:xs.length <2^40) (hc:∀x∈xs,∃n,x= .int .i64 n) {h h':List Row} {r:Option Nat} (hr:IdxR Tryz.prog GLx fid caps xs h r h'):
  FX 151 [.v (.list xs),fd] h [.v (.bool r.isSome)] h':=pJ ALI fd fid caps hf xs (AP3 fd fid caps hf xs hlen hc hr)
theorem AEg (fd:D) (fid:Nat) (caps:List D) (hf:FV fd fid caps) (xs:List V) (hlen:xs.length <2^40) (hc:∀x∈xs,∃cs,x= .agg cs∧cs.length=3) {h h':List Row} {r:Option Nat} (hr:IdxR Tryz.prog GLx fid caps xs h r h'):
  FX 153 [.v (.list xs),fd] h [.v (.bool r.isSome)] h':=pJ ATG fd fid caps hf xs (AP2 fd fid caps hf xs hlen hc hr)
theorem AJo (fd:D) (fid:Nat) (caps:List D) (hf:FV fd fid caps) (xs:List V) (hlen:xs.length <2^40) (hc:∀x∈xs,∃cs,x= .agg cs∧cs.length=3) {h h':List Row} {r:Option Nat} (hr:IdxR Tryz.prog GLx fid caps xs h r h'):
  FX 183 [.v (.list xs),fd] h [.v (.bool r.isSome)] h':=pJ ALB fd fid caps hf xs (APw fd fid caps hf xs hlen hc hr)
theorem APz (fd:D) (fid:Nat) (caps:List D) (hf:FV fd fid caps) (xs:List V) (hlen:xs.length <2^40) (hc:∀x∈xs,∃cs,x= .agg cs∧cs.length=8) {h h':List Row} {r:Option Nat} (hr:IdxR Tryz.prog GLx fid caps xs h r h'):
  FX 256 [.v (.list xs),fd] h [.v (.bool r.isSome)] h':=pJ ASX fd fid caps hf xs (APb fd fid caps hf xs hlen hc hr)
theorem AJa (fd:D) (fid:Nat) (caps:List D) (hf:FV fd fid caps) (xs:List V) (hlen:xs.length <2^40) (hc:∀x∈xs,∃cs,x= .agg cs∧cs.length=4) {h h':List Row} {r:Option Nat} (hr:IdxR Tryz.prog GLx fid caps xs h r h'):
  FX 277 [.v (.list xs),fd] h [.v (.bool r.isSome)] h':=pJ AKl fd fid caps hf xs (APX fd fid caps hf xs hlen hc hr)
theorem APg (fd:D) (fid:Nat) (caps:List D) (hf:FV fd fid caps) (xs:List V) (hlen:xs.length <2^40) (hc:∀x∈xs,∃cs,x= .agg cs∧cs.length=4) {h h':List Row} {r:Option Nat} (hr:IdxR Tryz.prog GLx fid caps xs h r h'):
  FX 293 [.v (.list xs),fd] h [.v (.bool r.isSome)] h':=pJ AKj fd fid caps hf xs (APV fd fid caps hf xs hlen hc hr)
set_option maxHeartbeats 2000000 in
theorem AKT (f:F) (Q:AExit→St→Prop) (hQ:Q .normal ⟨[(1,.ref 0 0),(27,.v (.bool (Jb f)))],[.cells f.cells]⟩):
  awp Tryz.prog GLx (.reg R8 [1,27]) Q ⟨[(1,.ref 0 0)],[.cells f.cells]⟩:=by
 obtain⟨B,hB⟩:∃B,Jb f=B:=⟨_,rfl⟩;rw[hB]at hQ;obtain⟨op,n,ins,kids⟩:=f;simp only[F.cells,Jb,F.op,F.n,F.ins,F.kids]at*;rw[AA];simp only[R8];by_cases h2:op=2
 ·subst h2;simp at hB;subst hB;simpa using hQ
 ·by_cases hl:0 <ins.length
  ·have hl':0 <(ins.length:Int):=by omega
   simp[h2,hl]at hB;subst hB;simp[h2,hl,hl'];exact hQ
  ·have hl':¬0 <(ins.length:Int):=by omega
   have hl2:ins=[]:=by cases ins<;>simp_all
   subst hl2;by_cases h1:op=1
   ·subst h1;simp at hB;subst hB;simpa using hQ
   ·by_cases hn:n=0
    ·subst hn;simp at hB;subst hB;simp[h2,h1];exact hQ
    ·have hn2:(n != 0)=true:=by simpa using hn
     simp[h2,h1,hn]at hB;subst hB;simp[h2,h1,hn2];exact hQ
set_option maxHeartbeats 4000000 in
theorem AQz (f:F) (hf:f.ok1):PX 144 [f.V] [.bool (Aw f)]:=by
 refine AK ATN rfl ?_;obtain⟨R,hR⟩:∃R,Aw f=R:=⟨_,rfl⟩;rw[hR];have hp:=(AP7 f.ins hf.2.2.1 hf.2.2.2).fsp;unfold AOn;rw[AB,AA];obtain⟨op,n,ins,kids⟩:=f;simp only[F.V_eq,F.op,F.n,F.ins,F.kids]at*;simp[qp,AY];rw[AB,AB];have ha:=AKT ⟨op,n,ins,kids⟩;simp only[F.cells,F.op,F.n,F.ins,F.kids]at ha;refine ha _ ?_;simp[AE];cases ho:Jb ⟨op,n,ins,kids⟩with
 |true=>
  rw[JK ho]at hR;simp[AB,AA,AF,qo,G9,hR]
 |false=>
  rw[Hx ho]at hR;simp only[F.op,F.n,F.ins,F.kids]at hR;simp only[AD,if_neg AWV];simp only[AB,AA,AG,AE,qn,ql,qk];simp;by_cases h0:op=0
  ·subst h0;simp at hR;simp[AF,AB,AA,qj,G9,TH,hR]
  ·simp only[h0,if_false]at hR;simp[h0,AB,AA,AE,qi];by_cases h1:op=1
   ·subst h1;simp at hR;simp[AF,AB,AA,qh];by_cases hk:kids.length=0
    ·have hk2:kids=[]:=AWX.1 hk;subst hk2;by_cases b1:0≤n<;>by_cases b2:n <64<;>simp[b1,b2]at hR<;>simp[b1,b2,G9,hR]
    ·have hk2:¬kids=[]:=λh=>hk (by rw[h];rfl);simp[hk2]at hR;simp[hk,hk2,G9,hR]
   ·simp only[h1,if_false]at hR;simp[h1,AB,AA,AE,qg];by_cases h2:op=2
    ·subst h2;simp at hR;simp[AF,AB,AA,Vd];by_cases hk:kids.length=0
     ·have hk2:kids=[]:=AWX.1 hk;subst hk2;by_cases b1:0≤n<;>by_cases b2:n <32<;>simp[b1,b2]at hR<;>simp[b1,b2,G9,hR]
      refine⟨_,_,hp _,?_⟩;simp;rw[←hR,AU3];simp
     ·have hk2:¬kids=[]:=λh=>hk (by rw[h];rfl);simp[hk2]at hR;simp[hk,hk2,G9,hR]
    ·simp only[h2,if_false]at hR;simp[h2,AB,AA,AE,Vc];by_cases h3:op=3
     ·subst h3;simp at hR;simp[AD,AF,AB,AA,NG,G9,Jm,hR]
     ·simp[h3,AD,AA,Vb];by_cases h6:op=6
      ·subst h6;simp at hR;simp[AD,AF,AB,AA,NG,G9,Jm,hR]
      ·simp[h3,h6]at hR;simp[h6,AD,AA,AF,VZ];by_cases h4:op=4<;>by_cases h5:op=5<;>simp[h4,h5]at hR<;>simp[h4,h5,G9,hR]
theorem AQ0:∀f:F,f.ok→PX 143 [f.V] [.int .i64 f.depth]:=by
 refine F.ind λop n ins kids ih hok=>?_;refine AK ATO rfl ?_;have hsz:=hok.2;rw[F.size_eq]at hsz;have hkl:=F.kids_len kids;have hdl:=Lk kids;simp only[AOo,AB,AA,AG,qy,qx,qw,AY];simp[F.V_eq];refine Aa kids.length (λk s=>s.e=[(3,.v (.int .i64 (F.depths (kids.take k)))),(7,.v (.list (kids.map F.V))),(8,.v (.int .i64 kids.length)),(9,.v (.int .i64 k))]) (by simp[F.depths]) ?_;rintro k ⟨se,sh⟩ hk he;simp only at he;subst he;simp only[qz,AB,AA,AG,AE,qv];simp;by_cases h1:k <kids.length
 ·obtain⟨x,hx⟩:∃x,kids[k]?=some x:=⟨_,AT2 h1⟩;have hxm:=AT3 hx;have hw:IntKind.i64.wrap ((k:Int)+1)=k+1:=AJ;have p1:=(ih x hxm (F.ok_kid hok hxm)).fsp;have ht:=JP hx;rw[if_pos (by omega),AD];simp only[AA,qu,qt,qr];obtain⟨xo,xn,xi,xk⟩:=x;simp[F.V_eq]at p1;simp[hx,F.V_eq,AN];refine⟨_,_,p1 _,?_⟩;simp[hw,h1,ht];split<;>omega
 ·have hk2:k=kids.length:=by omega
  subst hk2;rw[if_neg (by omega),AM];have hw2:IntKind.i64.wrap ((F.depths kids:Int)+1)=F.depths kids+1:=AJ;simp[AA,AF,qq,ADh,hw2,F.depth]
def RunY (P:Program) (GL:AX) (r:Nat):List V→List Row→Bool→List Row→Prop
 |[],X,b,X'=>b=true∧X'=X
 |n::ns,X,b,X'=>∃b1 X1,X1.length=X.length∧(∀J,∃J2,YSp P GL r [.v n] (X++J) b1 (X1++(J++J2)))∧if b1 then RunY P GL r ns X1 b X' else b=false∧X'=X1
section
variable {P:Program} {GL:AX} {r:Nat}
theorem RunY.len:∀ {ns:List V} {X:List Row} {b:Bool} {X':List Row},RunY P GL r ns X b X'→X'.length=X.length
 |[],X,b,X',h=>by rw[h.2]
 |n::ns,X,b,X',h=>by
  obtain⟨b1,X1,h1,_,h2⟩:=h;cases b1 with
  |true=>rw[RunY.len h2,h1]
  |false=>rw[h2.2,h1]
theorem RunY.app:∀ {xs ys:List V} {X:List Row} {b:Bool} {X':List Row},RunY P GL r (xs++ys) X b X'→∃b1 X1,RunY P GL r xs X b1 X1∧if b1 then RunY P GL r ys X1 b X' else b=false∧X'=X1
 |[],ys,X,b,X',h=>⟨true,X,⟨rfl,rfl⟩,h⟩
 |x::xs,ys,X,b,X',h=>by
  obtain⟨b1,X1,h1,h2,h3⟩:=h;cases b1 with
  |true=>
   obtain⟨b2,X2,h4,h5⟩:=RunY.app (xs:=xs) h3;exact⟨b2,X2,⟨true,X1,h1,h2,h4⟩,h5⟩
  |false=>exact⟨false,X1,⟨false,X1,h1,h2,rfl,rfl⟩,h3⟩
end
theorem AQv (x:F) (c:Nat) (h:List Row) (a:Nat) (hc:h[c]?=some (.cells [.func 148 [.ref a 0,.ref c 0]])) (b:Bool) (h':List Row)
  (hp:FX 148 [.v x.V,.ref a 0,.ref c 0] (h++[.cells x.cells]) [.v (.bool b)] h'):FX 150 [.v x.V,.ref c 0] h [.v (.bool (!b))] h':=by
 refine AV ATI rfl ?_;have hc2:=AO [.cells x.cells] hc;obtain⟨xo,xn,xi,xk⟩:=x;simp only[F.cells,F.op,F.n,F.ins,F.kids,F.V_eq]at*;simp only[AOh,AB,AA,AG,AE,qN,qM,AS];simp[hc2,D.vs?,D.v?];refine⟨_,_,hp,?_⟩;simp[AF,ADX]
theorem ARe (r:Nat) (a c:Nat) (kids:List F) (hk:∀k∈kids,∀X b X' J i j,a=X.length+i→c=X.length+j→RunY Tryz.prog GLx r (k.nodes.map F.V) X b X'→J[i]?=some (.cells [.yld r])→J[j]?=some (.cells [.func 148 [.ref a 0,.ref c 0]])→
   ∃J',FX 148 [.v k.V,.ref a 0,.ref c 0] (X++J) [.v (.bool b)] (X'++(J++J'))):
  ∀(X:List Row) (b:Bool) (X':List Row) (J:List Row) (i j:Nat),a=X.length+i→c=X.length+j→RunY Tryz.prog GLx r ((kids.flatMap F.nodes).map F.V) X b X'→J[i]?=some (.cells [.yld r])→J[j]?=some (.cells [.func 148 [.ref a 0,.ref c 0]])→
   ∃J' q,IdxR Tryz.prog GLx 150 [.ref c 0] (kids.map F.V) (X++J) q (X'++(J++J'))∧q.isSome= !b:=by
 induction kids with
 |nil=>
  rintro X b X' J i j ha hc ⟨rfl,rfl⟩ hi hj;exact⟨[],none,⟨rfl,by simp⟩,rfl⟩
 |cons k ks ih=>
  intro X b X' J i j ha hc hr hi hj;rw[AUN,AUZ]at hr;obtain⟨b1,X1,h1,h2⟩:=hr.app;have hl:=h1.len;obtain⟨J1,hp⟩:=hk k (by simp) X b1 X1 (J++[.cells k.cells]) i j ha hc h1 (AO _ hi) (AO _ hj);have hcc:(X++J)[c]?=some (.cells [.func 148 [.ref a 0,.ref c 0]]):=by rw[At X J c j hc];exact hj
  rw[←AUB]at hp;have hq:=AQv k c (X++J) a hcc b1 _ hp;cases b1 with
  |true=>
   simp only[if_true]at h2;obtain⟨J2,q,h3,h4⟩:=ih (λx hx=>hk x (by simp[hx])) X1 b X' (J++[.cells k.cells]++J1) i j (by rw[hl];exact ha) (by rw[hl];exact hc) h2 (AO _ (AO _ hi)) (AO _ (AO _ hj));refine⟨[.cells k.cells]++J1++J2,q.map (· +1),⟨false,_,hq,?_⟩,by cases q<;>simpa using h4⟩
   simp only[AUF,if_false];refine⟨q,?_,rfl⟩;simpa[AUB]using h3
  |false=>
   simp only[AUF,if_false]at h2;obtain⟨rfl,rfl⟩:=h2;refine⟨[.cells k.cells]++J1,some 0,⟨true,_,hq,?_⟩,rfl⟩;simp[AUB]
theorem AQw (r:Nat) (a c:Nat):∀f:F,f.ok→∀X b X' J i j,a=X.length+i→c=X.length+j→RunY Tryz.prog GLx r (f.nodes.map F.V) X b X'→J[i]?=some (.cells [.yld r])→J[j]?=some (.cells [.func 148 [.ref a 0,.ref c 0]])→
   ∃J',FX 148 [.v f.V,.ref a 0,.ref c 0] (X++J) [.v (.bool b)] (X'++(J++J')):=by
 refine F.ind λop n ins kids ih hok=>?_;intro X b X' J i j ha hc hr hi hj;have hsz:=hok.2;rw[F.size_eq]at hsz;have hkl:=F.kids_len kids;rw[F.nodes_eq,AUD]at hr;obtain⟨b1,X1,hl,hy,hr2⟩:=hr;obtain⟨J2,hy2⟩:=hy (J++[.cells (F.mk op n ins kids).cells]);have ga:(X++(J++[.cells (F.mk op n ins kids).cells]))[a]?=some (.cells [.yld r]):=by rw[At X _ a i ha];exact AO _ hi
 have gc:(X++(J++[.cells (F.mk op n ins kids).cells]))[c]?=some (.cells [.func 148 [.ref a 0,.ref c 0]]):=by rw[At X _ c j hc];exact AO _ hj
 have gf:(X++(J++[.cells (F.mk op n ins kids).cells]))[X.length+J.length]?=some (.cells (F.mk op n ins kids).cells):=by rw[At X _ _ J.length rfl];simp
 have gf2:(X1++(J++[.cells (F.mk op n ins kids).cells]++J2))[X.length+J.length]?=some (.cells (F.mk op n ins kids).cells):=by rw[At X1 _ _ J.length (by rw[hl])];simp
 have hkids:∀x∈kids.map F.V,∃cs,x=V.agg cs∧cs.length=4:=by
  intro x hx;obtain⟨k,_,rfl⟩:=AT9.1 hx;obtain⟨ko,kn,ki,kk⟩:=k;exact⟨_,F.V_eq ..,rfl⟩
 have e0:X++J++[.cells (F.mk op n ins kids).cells]=X++(J++[.cells (F.mk op n ins kids).cells]):=AUB ..;cases b1 with
 |false=>
  obtain⟨rfl,rfl⟩:=hr2;refine⟨[.cells (F.mk op n ins kids).cells]++J2,AV ALJ rfl ?_⟩;simp only[F.cells,F.op,F.n,F.ins,F.kids,F.V_eq]at*;simp only[AIR,AB,AA,AG,AE,Ry,Rx,AS];simp[-Bool.exists_bool];simp[ga,gf,-Bool.exists_bool];refine⟨_,_,hy2,?_⟩;simp[AF,qO]
 |true=>
  simp only[if_true]at hr2;obtain⟨J3,q,hidx,hq⟩:=ARe r a c kids (λk hk=>ih k hk (F.ok_kid hok hk)) X1 b X' (J++[.cells (F.mk op n ins kids).cells]++J2) i j (by rw[hl];exact ha) (by rw[hl];exact hc) hr2 (AO _ (AO _ hi)) (AO _ (AO _ hj));have hp:=uo (.func 150 [.ref c 0]) 150 [.ref c 0] (FV.r 150 c 0 []) (kids.map F.V) (by simp;omega) hkids hidx;refine⟨[.cells (F.mk op n ins kids).cells]++J2++J3,AV ALJ rfl ?_⟩;simp only[F.cells,F.op,F.n,F.ins,F.kids,F.V_eq]at*;simp only[AIR,AB,AA,AG,AE,Ry,Rx,AS];simp[-Bool.exists_bool];simp[ga,gf,-Bool.exists_bool];refine⟨_,_,hy2,?_⟩;simp at gf2;simp[gf2,D.vs?,D.v?];simp at hp;rw[hq]at hp;refine⟨_,_,hp,?_⟩;simp[AF,qO]
theorem p68 (f:F) (h:List Row):FX 68 [.v f.V] h [.func 147 [.ref h.length 0]] (h++[.cells f.cells]):=by
 refine AV k68 rfl ?_;obtain⟨op,n,ins,kids⟩:=f;simp[c68,awp,AAG,AAF,AMA,AS,F.V_eq,F.cells,F.op,F.n,F.ins,F.kids,D.vs?,D.v?]
theorem up (f:F) (hok:f.ok) (r q:Nat) (X:List Row) (b:Bool) (X':List Row) (hr:RunY Tryz.prog GLx r (f.nodes.map F.V) X b X') (hq:X[q]?=some (.cells f.cells)):
  ∃J,FX 147 [.yld r,.ref q 0] X [] (X'++J):=by
 obtain⟨J',hp⟩:=AQw r X.length (X.length+1) f hok X b X' [.cells [.yld r],.cells [.func 148 [.ref X.length 0,.ref (X.length+1) 0]]] 0 1 rfl rfl hr rfl rfl;refine⟨[.cells [.yld r],.cells [.func 148 [.ref X.length 0,.ref (X.length+1) 0]]]++J',AV ATK rfl ?_⟩;obtain⟨op,n,ins,kids⟩:=f;have hq2:=AO [.cells [.yld r],.cells [.func 148 [.ref X.length 0,.ref (X.length+1) 0]]] hq;simp only[F.cells,F.op,F.n,F.ins,F.kids,F.V_eq]at*;simp only[AOk,AB,AA,AG,AE,qS,qR,qQ,qP,AS];simp[AN,D.vs?,D.v?]
 try simp at hq2
 simp[hq2];exact⟨⟨_,hp⟩,rfl⟩
theorem ARg (A B:Row) (e0:Env) (he:AH e0 3= .ref 1 0):∀(ns:List V) (k:Nat),k+ns.length≤2^41→
  RunY Tryz.prog GLx 3 ns [A,.cells [.v (.int .i64 k)],B,An Tryz.prog GLx .ready e0 [6] Iz Iy] true [A,.cells [.v (.int .i64 (k+ns.length:Nat))],B,An Tryz.prog GLx .ready e0 [6] Iz Iy]:=by
 intro ns;induction ns with
 |nil=>intro k _;exact⟨rfl,rfl⟩
 |cons n ns ih=>
  intro k hk;simp only[AUO]at hk;refine⟨true,[A,.cells [.v (.int .i64 (k+1:Nat))],B,An Tryz.prog GLx .ready e0 [6] Iz Iy],rfl,λJ=>⟨[],?_⟩,?_⟩
  ·refine Cn (e0:=e0) (ps:=[6]) (asg:=Iz) (body:=Iy) (by simp) rfl ?_;have hw:IntKind.i64.wrap ((k:Int)+1)=k+1:=AJ;simp only[Fo,Iz,Iy,AA,AG,AD,rC];simp[he,hw,AN,CN]
  ·have:=ih (k+1) (by omega);have e:k+1+ns.length=k+(n::ns).length:=by simp;omega
   rw[e]at this;exact this
theorem AQ1 (f:F) (hok:f.ok):PX 142 [f.V] [.int .i64 f.size]:=by
 refine AK ATP rfl ?_;have hsz:=hok.2;have h68:=p68 f;have hr:=ARg (.cells f.cells) (.cells f.cells) (cpE [(3,.ref 1 0),(5,.func 147 [.ref 2 0])]) rfl (f.nodes.map F.V) 0 (by simp;unfold F.size at hsz;omega);obtain⟨J,hp⟩:=up f hok 3 2 _ _ _ hr rfl;have e1:(f.nodes.map F.V).length=f.size:=by simp[F.size]
 rw[e1,AU9]at hp;generalize f.size=sz at*;obtain⟨op,n,ins,kids⟩:=f;simp only[F.cells,F.op,F.n,F.ins,F.kids,F.V_eq]at*;simp only[AOp,AB,AA,AG,rF,rE,rD,AY];simp[AN];refine⟨_,_,h68 _,?_⟩;simp;refine Ca 147 [.ref 2 0] [] _ _ .ready rfl rfl hp rfl ?_;simp[Bo,rA,AF,ADi]
theorem y66 (A B:Row) (e0:Env) (he:AH e0 2= .ref 1 0) (g:F) (hg:g.ok1) (J:List Row):∃J2,YSp Tryz.prog GLx 3 [.v g.V] ([A,.cells [.v (.int .i64 0)],B,An Tryz.prog GLx .ready e0 [14] IC IB]++J) (Aw g)
   ((if Aw g then [A,.cells [.v (.int .i64 0)],B,An Tryz.prog GLx .ready e0 [14] IC IB] else [A,.cells [.v (.int .i64 1)],B,An Tryz.prog GLx (.done none) e0 [14] IC IB])++(J++J2)):=by
 refine⟨[.cells g.cells],Cn (e0:=e0) (ps:=[14]) (asg:=IC) (body:=IB) (by simp) rfl ?_⟩;have hp:=(AQz g hg).fsp;generalize Aw g=b at*;obtain⟨op,n,ins,kids⟩:=g;simp only[F.cells,F.op,F.n,F.ins,F.kids,F.V_eq]at*;simp only[Fo,IC,IB,AA,AG,AB,AE,AAQ,AAP];have e:J.length+1+1+1+1=J.length+4:=by omega
 simp[he,AN];simp at hp;refine⟨_,_,hp _,?_⟩;cases b with
 |true=>simp[AD,CN]
 |false=>simp[AB,AA,AF,AAO,AN,CN,he]
theorem l66 (A B:Row) (e0:Env) (he:AH e0 2= .ref 1 0):∀(ns:List F),(∀g∈ns,g.ok1)→
  RunY Tryz.prog GLx 3 (ns.map F.V) [A,.cells [.v (.int .i64 0)],B,An Tryz.prog GLx .ready e0 [14] IC IB] (ns.all Aw)
   (if ns.all Aw then [A,.cells [.v (.int .i64 0)],B,An Tryz.prog GLx .ready e0 [14] IC IB] else [A,.cells [.v (.int .i64 1)],B,An Tryz.prog GLx (.done none) e0 [14] IC IB]):=by
 intro ns;induction ns with
 |nil=>intro _;exact⟨rfl,rfl⟩
 |cons n ns ih=>
  intro hk;have hy:=y66 A B e0 he n (hk n (by simp));refine⟨Aw n,_,?_,hy,?_⟩
  ·split<;>rfl
  ·cases hf:Aw n with
   |true=>
    simp only[if_true,AVl,hf,AUh];exact ih λg hg=>hk g (by simp[hg])
   |false=>simp[hf]
theorem p66 (f:F) (hok:f.ok):PX 66 [f.V] [.int .i64 (BM f)]:=by
 refine AK k66 rfl ?_;obtain⟨R,hR⟩:∃R,BM f=R:=⟨_,rfl⟩;rw[hR];unfold BM at hR;have h1:=(AQ1 f hok).fsp;have h2:=(AQ0 f hok).fsp;have h68:=p68 f;have hr:=l66 (.cells f.cells) (.cells f.cells) (cpE [(2,.ref 1 0),(13,.func 147 [.ref 2 0])]) rfl f.nodes hok.1;obtain⟨J,hp⟩:=up f hok 3 2 _ _ _ hr rfl;generalize f.nodes.all Aw=al at*;generalize f.size=sz at*;generalize f.depth=dp at*;obtain⟨op,n,ins,kids⟩:=f;simp only[F.cells,F.op,F.n,F.ins,F.kids,F.V_eq]at*;simp only[c66,AB,AA,AG,AE,AAT,AAS,AY];simp at h1 h2 h68;simp;refine⟨_,_,h1 _,?_⟩;by_cases b1:96 <sz
 ·have b1':96 <(sz:Int):=by omega
  simp[b1]at hR;simp[b1',AB,AA,AF,ZD,ZE,AN,hR]
 ·have b1':¬96 <(sz:Int):=by omega
  simp[b1'];refine⟨_,_,h2 _,?_⟩;by_cases b2:8 <dp
  ·have b2':8 <(dp:Int):=by omega
   simp[b2]at hR;simp[b2',AB,AA,AF,ZD,ZE,AN,hR]
  ·have b2':¬8 <(dp:Int):=by omega
   simp[b1,b2]at hR;simp[b2',AD,AA,AAR];refine⟨_,_,h68 _,?_⟩;simp;cases al with
   |true=>
    simp at hR;refine Ca 147 [.ref 2 0] [] _ _ .ready rfl rfl hp rfl ?_;simp[Bo,AA,AF,AAN,ZE,AN,hR]
   |false=>
    simp at hR;refine Ca 147 [.ref 2 0] [] _ _ (.done none) rfl rfl hp rfl ?_;simp[Bo,ZE,hR]
def Pr0:PS:=λ_ _ _=>none
def DM:List (List Int):=[[],[0],[0],[1,2],[],[4]]
theorem AJx:∀ps∈DM,PX 120 [.int .i64 6,AL .i64 ps] [.bool true]:=by
 intro ps hps;simp only[DM,AT7,AUE,or_false]at hps;rcases hps with rfl|rfl|rfl|rfl|rfl|rfl
 all_goals exact Gg (Pr:=Pr0) (fuel:=100) PQ (λf args h x hx=>by cases hx) (by kernel_rfl)
theorem AJw:∀ps∈DM,PX 121 [AL .i64 ps] [.bool true]:=by
 intro ps hps;simp only[DM,AT7,AUE,or_false]at hps;rcases hps with rfl|rfl|rfl|rfl|rfl|rfl
 all_goals exact Gg (Pr:=Pr0) (fuel:=100) PQ (λf args h x hx=>by cases hx) (by kernel_rfl)
theorem AJv:∀ps∈DM,PX 122 [AL .i64 ps] [AL .i64 ps]:=by
 intro ps hps;simp only[DM,AT7,AUE,or_false]at hps;rcases hps with rfl|rfl|rfl|rfl|rfl|rfl
 all_goals exact Gg (Pr:=Pr0) (fuel:=100) PQ (λf args h x hx=>by cases hx) (by kernel_rfl)
abbrev bv (b:Bool):D:= .v (.bool b)
def F8:D:= .own 22 1 (DM.map (AL .i64))
def txR (bs:List Bool):Row:= .cells (F8::bs.map bv)
def Bn (bs dn op:List Bool):List Row:=[txR bs,.cells [.ref 0 0],.cells (dn.map bv),.cells (op.map bv),.cells [.sref 2 6],.cells [.sref 3 6],.cells [.func 211 [.ref 4 0,.ref 5 0,.ref 1 0,.ref 6 0]]]
def inJ (i:Nat) (src:List Bool):Nat→List Bool→List Bool
 |0,bs=>bs
 |j+1,bs=>(inJ i src j bs).set (i*64+j) ((inJ i src j bs).getD (i*64+j) false||src.getD j false)
theorem ML (i:Nat) (src:List Bool) (bs:List Bool):∀j,(inJ i src j bs).length=bs.length
 |0=>rfl
 |j+1=>by rw[inJ,AUt,ML i src bs j]
def upP (i:Nat) (bs:List Bool) (p:Nat):List Bool:=inJ i ((bs.drop (p*64)).take 64) 64 bs
theorem ARZ (i:Nat) (hi:i <6) (bs dn op src:List Bool) (hbs:bs.length=4096) (hs:src.length=64) (d41 d42 d43:D):
  awp Tryz.prog GLx (.loop Rb) (λe s=>e= .exit 2∧AH s.e 0= .v (.int .i64 i)∧AH s.e 1= .ref 4 0∧AH s.e 3= .ref 1 0∧AH s.e 4= .ref 6 0∧AH s.e 41=d41∧AH s.e 42=d42∧AH s.e 43=d43∧s.h=Bn (inJ i src 64 bs) dn op)
   ⟨[(0,.v (.int .i64 i)),(1,.ref 4 0),(3,.ref 1 0),(4,.ref 6 0),(41,d41),(42,d42),(43,d43),(56,.agg (src.map bv)),(57,.v (.int .i64 0))],Bn bs dn op⟩:=by
 refine Ad 64 (λj=>⟨[(0,.v (.int .i64 i)),(1,.ref 4 0),(3,.ref 1 0),(4,.ref 6 0),(41,d41),(42,d42),(43,d43),(56,.agg (src.map bv)),(57,.v (.int .i64 j))],Bn (inJ i src j bs) dn op⟩) (by simp[inJ]) ?_;intro j hj;simp only[Rb,AB,AA,AG,AE,U7];simp;by_cases hlt:j <64
 ·have hw:IntKind.i64.wrap ((j:Int)+1)=j+1:=AJ;have hnext:inJ i src (j+1) bs=(inJ i src j bs).set (i*64+j) ((inJ i src j bs).getD (i*64+j) false||src.getD j false):=rfl
  have hbl:=ML i src bs j;rw[hnext];generalize inJ i src j bs=B at*;obtain⟨b,hb⟩:∃b,B[i*64+j]?=some b:=⟨_,AT2 (by omega)⟩;obtain⟨c,hc⟩:∃c,src[j]?=some c:=⟨_,AT2 (by omega)⟩;have hbD:B.getD (i*64+j) false=b:=by rw[AWm,hb];rfl
  have hcD:src.getD j false=c:=by rw[AWm,hc];rfl
  rw[hbD,hcD];obtain⟨ds,hds⟩:∃ds,F8::B.map bv=ds:=⟨_,rfl⟩;have hlen:ds.length=4097:=by rw[←hds];simp;omega
  have hld:ds[1+i*64+j]?=some (bv b):=by rw[←hds,show 1+i*64+j=(i*64+j)+1 by omega];simp[hb]
  have hput:∀v,AN ds (1+i*64+j) [bv v]=F8::(B.set (i*64+j) v).map bv:=by
   intro v;rw[←hds,show 1+i*64+j=(i*64+j)+1 by omega,AN];simp only[List.take_succ_cons,AWK,List.drop_succ_cons,List.map_set,AUx];rw[AWI,if_pos (by simp;omega)];simp
  have hlt2:(i:Int) <64:=by omega
  have hj2:(j:Int) <64:=by omega
  have hle:1+i*64+j+1≤4097:=by omega
  rw[if_pos (by omega),AD];simp only[AA,U6,Bn,txR,hds];have hj63:j≤63:=by omega
  simp[hs,hc,hj63,AW,U5];simp[hlen,hld,hlt2,hj2,hlt,hle,hi];cases b with
  |false=>
   simp[hput,hlen,hle,AA,M1,hw,Bn,txR,hlt]
  |true=>
   simp[hput,hlen,hle,AA,M1,hw,Bn,txR,hlt]
 ·have:j=64:=by omega
  subst this;rw[if_neg (by omega),AM];simp
theorem PV {α:Type} {l:List α} {k:Nat} {x:α} (h:l[k]?=some x):l.take (k+1)=l.take k++[x]:=by rw[AUP,h];rfl
def tfs (i:Nat):List Bool:=(List.range 6).map λj=>decide (j <i)
def L7 (i:Nat):List Int:=DM.getD i []
def JM (i:Nat) (bs:List Bool):List Bool:=(L7 i).foldl (λb p=>upP i b p.toNat) (bs.set (i*64+i) true)
theorem uU (i:Nat) (bs:List Bool) (p:Nat):(upP i bs p).length=bs.length:=ML _ _ _ _
theorem KU (i:Nat):∀(ps:List Int) (bs:List Bool),(ps.foldl (λb p=>upP i b p.toNat) bs).length=bs.length
 |[],_=>rfl
 |p::ps,bs=>by rw[AVQ,KU i ps,uU]
theorem WV (i:Nat) (bs:List Bool):(JM i bs).length=bs.length:=by rw[JM,KU,AUt]
theorem S2 (i:Nat):(tfs i).length=6:=by simp[tfs]
theorem S3 (i p:Nat) (hp:p <6):(tfs i)[p]?=some (decide (p <i)):=by simp[tfs,hp]
theorem uV (i:Nat) (hi:i <6):(tfs i).set i true=tfs (i+1):=by
 have:∀i <6,(tfs i).set i true=tfs (i+1):=by decide
 exact this i hi
theorem TB (l:List Bool) (i:Nat) (v:Bool) (hi:i <l.length):AN (l.map bv) i [bv v]=(l.set i v).map bv:=by
 rw[AN,List.map_set,AWI,if_pos (by simpa using hi)];simp
theorem AJm (bs op:List Bool) (i p:Nat) (hp:p <i) (hi:i≤6):FX 211 [.v (.int .i64 p),.ref 4 0,.ref 5 0,.ref 1 0,.ref 6 0] (Bn bs (tfs i) op) [.v (.bool true)] (Bn bs (tfs i) op):=by
 refine AV AK4 rfl ?_;have hl:=S2 i;have hp6:p <6:=by omega
 have hd:(tfs i)[p]?=some true:=by rw[S3 i p hp6];simp[hp]
 have hp5:p≤5:=by omega
 have hp6':(p:Int) <6:=by omega
 generalize tfs i=dn at*;have hde:∀h,dn[p]'h=true:=λh=>(AT4.1 hd).2;simp only[AHW,AB,AA,AE,Ra,RZ,AS,Bn];simp[hp6,hp6',hp5,hd,hde,hl,AB,AA,nP,AF,nQ]
set_option maxHeartbeats 1000000 in
theorem AKR (i:Nat) (hi:i <6) (ps:List Int) (dn dn' B0:List Bool) (hB0:B0.length=4096) (hps:∀p∈ps,0≤p∧p.toNat <i) (hpn:ps.length≤2)
  (ha:∀bs (p:Nat),p <i→FX 211 [.v (.int .i64 p),.ref 4 0,.ref 5 0,.ref 1 0,.ref 6 0] (Bn bs dn dn') [.v (.bool true)] (Bn bs dn dn')):
  awp Tryz.prog GLx (.loop Rc) (λe s=>e= .exit 0∧AH s.e 0= .v (.int .i64 i)∧AH s.e 1= .ref 4 0∧s.h=Bn (ps.foldl (λb p=>upP i b p.toNat) B0) dn dn')
   ⟨[(0,.v (.int .i64 i)),(1,.ref 4 0),(3,.ref 1 0),(4,.ref 6 0),(41,.v (AL .i64 ps)),(42,.v (.int .i64 ps.length)),(43,.v (.int .i64 0))],Bn B0 dn dn'⟩:=by
 have fl:∀k,((ps.take k).foldl (λb p=>upP i b p.toNat) B0).length=4096:=by
  intro k;rw[KU,hB0]
 refine Ad ps.length (λk=>⟨[(0,.v (.int .i64 i)),(1,.ref 4 0),(3,.ref 1 0),(4,.ref 6 0),(41,.v (AL .i64 ps)),(42,.v (.int .i64 ps.length)),(43,.v (.int .i64 k))],Bn ((ps.take k).foldl (λb p=>upP i b p.toNat) B0) dn dn'⟩) (by simp) ?_;intro k hk;have hBl:=fl k;simp only[Rc,AB,AA,AG,AE,nL];simp[AL];by_cases hlt:k <ps.length
 ·obtain⟨p,hpk⟩:∃p,ps[k]?=some p:=⟨_,AT2 hlt⟩;have hw:IntKind.i64.wrap ((k:Int)+1)=k+1:=AJ;obtain⟨hp0,hpi⟩:=hps p (AT3 hpk);obtain⟨q,rfl⟩:∃q:Nat,p=q:=⟨p.toNat,by omega⟩;have hqi:q <i:=by omega
  have hsuc:(ps.take (k+1)).foldl (λb p=>upP i b p.toNat) B0=upP i ((ps.take k).foldl (λb p=>upP i b p.toNat) B0) q:=by
   rw[PV hpk,AVf,AVQ,List.foldl_nil,AVs]
  rw[hsuc];generalize (ps.take k).foldl (λb p=>upP i b p.toNat) B0=B at*;have hc:=ha B q hqi;have hq64:(q:Int) <64:=by omega
  have hq63:q≤63:=by omega
  have hsl:((B.drop (q*64)).take 64).length=64:=by rw[AUT,List.length_drop];omega
  have q2:=ARZ i hi B dn dn' ((B.drop (q*64)).take 64) hBl hsl (.v (AL .i64 ps)) (.v (.int .i64 ps.length)) (.v (.int .i64 k));have hup:upP i B q=inJ i ((B.drop (q*64)).take 64) 64 B:=by rw[upP]
  rw[←hup]at q2;generalize upP i B q=NB at*;clear hup;have hld:List.take 64 (List.drop (q*64) (List.map bv B))=((B.drop (q*64)).take 64).map bv:=by rw[AUd,AWO]
  have hcp:∀l:List Bool,List.map (D.copy ∘ bv) l=l.map bv:=λl=>by simp[AWU,D.copy]
  have hle:1+q*64≤4033:=by omega
  have hdr:∀(x:D) (l:List D),List.drop (1+q*64) (x::l)=List.drop (q*64) l:=λx l=>by rw[Nat.add_comm];rfl
  rw[if_pos (by omega),AD];simp only[AA,nK];simp[hpk,nJ,Bn];simp only[Bn]at hc;refine⟨_,_,hc,?_⟩;simp[AD,U8,txR,hq64,hq63,hBl,hle,hdr,hcp];simp only[Bn,txR,AL]at q2;simp only[AUd,AWO]at q2;refine Ag _ ?_ q2;rintro e ⟨se,sh⟩ ⟨rfl,f0,f1,f3,f4,f41,f42,f43,hh⟩;simp only at f0 f1 f3 f4 f41 f42 f43 hh;subst hh;simp[U4,f0,f1,f3,f4,f41,f42,f43,hw,hlt]
 ·have:k=ps.length:=by omega
  subst this;rw[if_neg (by omega),AM];simp
theorem AQX (bs:List Bool) (i:Nat) (hi:i <6) (hbs:bs.length=4096):FX 211 [.v (.int .i64 i),.ref 4 0,.ref 5 0,.ref 1 0,.ref 6 0] (Bn bs (tfs i) (tfs i)) [.v (.bool true)] (Bn (JM i bs) (tfs (i+1)) (tfs (i+1))):=by
 refine AV AK4 rfl ?_;have hl:=S2 i;have hd:(tfs i)[i]?=some false:=by rw[S3 i i hi];simp
 have hi5:i≤5:=by omega
 have hi6':(i:Int) <6:=by omega
 have hset:=TB (tfs i) i true (by omega);rw[uV i hi]at hset;have ha:=λbs p hp=>AJm bs (tfs (i+1)) i p hp (by omega);have hpar:DM[i]?=some (L7 i):=by
  have:∀i <6,DM[i]?=some (L7 i):=by decide
  exact this i hi
 have hps:∀p∈L7 i,0≤p∧p.toNat <i:=by
  have:∀i <6,∀p∈L7 i,0≤p∧p.toNat <i:=by decide
  exact this i hi
 have hpn:(L7 i).length≤2:=by
  have:∀i <6,(L7 i).length≤2:=by decide
  exact this i hi
 have hres:JM i bs=(L7 i).foldl (λb p=>upP i b p.toNat) (bs.set (i*64+i) true):=rfl;generalize JM i bs=FB at*;generalize L7 i=ps at*;generalize tfs (i+1)=dn' at*;generalize tfs i=dn at*;have r0:AN (F8::bs.map bv) (1+i*64+i) [bv true]=F8::(bs.set (i*64+i) true).map bv:=by
  rw[show 1+i*64+i=(i*64+i)+1 by omega,AN];have:=TB bs (i*64+i) true (by omega);rw[AN]at this;simpa using this
 have hi64:i≤63:=by omega
 have hi64':(i:Int) <64:=by omega
 have hle:1+i*64+i+1≤bs.length+1:=by omega
 simp only[AHW,AB,AA,AE,Ra,RZ,AS,Bn];simp[hi5,hi6',hd,hl,AD,nO];simp[hset,nN,txR,hi64,hi64',r0,hle];have hpl:DM.length=6:=rfl;simp[nM,F8,hpar,hpl,hi6',hi5,AL];have q:=AKR i hi ps dn dn' (bs.set (i*64+i) true) (by rw[AUt,hbs]) hps hpn ha;rw[←hres]at q;simp[Bn,txR,F8,AL]at q;simp only[AG];refine Ag _ ?_ q;rintro e ⟨se,sh⟩ ⟨rfl,f0,f1,hh⟩;simp only at f0 f1 hh;subst hh;simp[U3,f0,f1,hi6',hi5,hl,hset,U2,AF,nQ]
def PJ:AC:=match wg with| .seq _ (.seq a _)=>a|_=> .skip
def ADr:AC:=match wg with| .seq _ (.seq _ b)=>b|_=> .skip
theorem we:wg= .seq (.reg Sc [1]) (.seq PJ ADr):=rfl
def W0:AT:=match PJ with| .regA _ _ _ t=>t|_=> .done
def ALi:List (List Nat):=match PJ with| .regA _ _ c _=>c|_=>[]
theorem tP:PJ= .regA Sb [1,3,4] ALi W0:=rfl
def OG (rest:List D):Option (List St):=evT (ev Tb Pr0 4) [] Sb W0 ⟨[(1,.ref 1 0)],[.cells (F8::rest),.cells [.ref 0 0]]⟩
theorem AJ0 (rest:List D):OG rest=(OG []).map (List.map λo=>⟨o.e,o.h.set 0 (.cells (F8::rest))⟩):=by kernel_rfl
def F6:Row:= .cells ((tfs 0).map bv)
def AFH:St:=⟨[(1,.ref 1 0),(3,.ref 4 0),(4,.ref 5 0)],[.cells [F8],.cells [.ref 0 0],F6,F6,.cells [.sref 2 6],.cells [.sref 3 6]]⟩
def KG (o:St):List (Nat×Nat):=
 match AH o.e 3,AH o.e 4 with
 | .ref a _,.ref b _=>match o.h[a]?,o.h[b]? with
  |some (.cells [.sref u _]),some (.cells [.sref v _])=>[(a,4),(b,5),(u,2),(v,3)]
  |_,_=>[]
 |_,_=>[]
def YU (o:St):Bool:=
 decide (o.h.length=6)&&KH 2 6 (KG o)&&LV o.h&&decide (rnm (Bp (KG o)) 0=0)&&((List.range 6).all λi=>decide (i=0)|| !decide (rnm (Bp (KG o)) i=0))&&
  Ol [1,3,4] (S8 (KG o) o) AFH
theorem XS:(match OG []with|some os=>os.all YU|none=>false)=true:=by kernel_rfl
theorem AEY (π:List (Nat×Nat)) (bs:List Bool):Row.ren π (.cells (F8::bs.map bv))= .cells (F8::bs.map bv):=by
 simp[Row.ren,CO,F8,D.ren,AWU]
theorem OA (π:List (Nat×Nat)) (h:List Row) (X:Row) (hX:X.ren π=X) (hl:h.length=6) (h0:rnm (Bp π) 0=0) (hi:∀i <6,i≠0→rnm (Bp π) i≠0):Ap π (h.set 0 X)=(Ap π h).set 0 X:=by
 refine AUj λi=>?_;simp only[Ap,AUt,hl,AUG];rcases AUS i 6 with hi6|hi6
 ·rw[AU4 hi6];by_cases hz:i=0
  ·subst hz;rw[AUY (by simp)];simp only[AUU,h0];rw[AUY (by omega)];simp[hX]
  ·rw[AUJ (Ne.symm hz),AUG,AU4 hi6];simp only[AUU];rw[AUJ (Ne.symm (hi i hi6 hz))]
 ·rw[AUW (by simpa using hi6),AUW (by simpa using hi6)];rfl
theorem ATz (bs:List Bool) (Q:AExit→St→Prop)
  (hQ:Q .normal ⟨[(1,.ref 1 0),(3,.ref 4 0),(4,.ref 5 0)],[txR bs,.cells [.ref 0 0],F6,F6,.cells [.sref 2 6],.cells [.sref 3 6]]⟩):
  awp Tryz.prog GLx PJ Q ⟨[(1,.ref 1 0)],[txR bs,.cells [.ref 0 0]]⟩:=by
 rw[tP,BO];obtain⟨os,h0⟩:∃os,OG []=some os:=by
  have h:=XS;cases ho:OG []with
  |none=>rw[ho]at h;cases h
  |some os=>exact⟨os,rfl⟩
 have hchk:=XS;rw[h0]at hchk;have he:=AJ0 (bs.map bv);rw[h0,AUU]at he;obtain⟨-,hall⟩:=In (P:=Tryz.prog) (GL:=GLx) (Ps PQ (λf args h x hx=>by cases hx) 4) W0 he ⟨λr hr=>by simp[Lp.has]at hr,by simp⟩;refine hall _ λo ho=>?_;obtain⟨o0,ho0,rfl⟩:=AT9.1 ho;have hc:=(AUI.1 hchk) o0 ho0;simp only[YU,AT1,decide_eq_true_eq]at hc;obtain⟨⟨⟨⟨⟨c1,c2⟩,c3⟩,c4⟩,c5⟩,c6⟩:=hc;obtain⟨e1,e2⟩:=KY c6;have hi:∀i <6,i≠0→rnm (Bp (KG o0)) i≠0:=by
  intro i hi hz;have:=(AUI.1 c5) i (AUR.2 hi);simpa[hz]using this
 have hr:=OA (KG o0) o0.h (.cells (F8::bs.map bv)) (AEY _ _) c1 c4 hi;simp only[S8]at e1 e2;rw[e2]at hr;refine A6 (K:=λs2=>Q .normal ⟨BR s2.e [1,3,4],s2.h⟩) (KG o0) ?_ ?_ ?_
 ·simpa[c1,Lp.ins]using c2
 ·simp only[LV,AUI,Lp.ins]at c3 ⊢;intro r hr;rcases AUv hr with hr|rfl
  ·exact c3 r hr
  ·rfl
 ·simp only[Lp.ins];rw[hr,e1];exact hQ
def CV:Nat→List Bool→List Bool
 |0,bs=>bs
 |i+1,bs=>JM i (CV i bs)
theorem Im (bs:List Bool):∀i,(CV i bs).length=bs.length
 |0=>rfl
 |i+1=>by rw[CV,WV,Im bs i]
theorem tO:ADr=(.seq (.reg Sa [1,3,4,5]) (.seq (.reg SZ [1,5]) (.seq (.seq (.reg SY [5,24,25]) (.block 0 (.loop NR))) (.seq (.reg NQ [2]) .ret)))):=rfl
theorem ARj (bs:List Bool) (hbs:bs.length=4096):
  awp Tryz.prog GLx (.loop NR) (λe s=>e= .exit 0∧s.h=Bn (CV 6 bs) (tfs 6) (tfs 6))
   ⟨[(5,.ref 6 0),(24,.v (.int .i64 6)),(25,.v (.int .i64 0))],Bn bs (tfs 0) (tfs 0)⟩:=by
 refine Ad 6 (λi=>⟨[(5,.ref 6 0),(24,.v (.int .i64 6)),(25,.v (.int .i64 i))],Bn (CV i bs) (tfs i) (tfs i)⟩) (by simp[CV]) ?_;intro i hi;simp only[NR,AB,AA,AG,AE,tN];simp;by_cases hlt:i <6
 ·have hw:IntKind.i64.wrap ((i:Int)+1)=i+1:=AJ;have p1:=AQX (CV i bs) i hlt (by rw[Im,hbs]);have hn:CV (i+1) bs=JM i (CV i bs):=rfl;rw[hn];generalize JM i (CV i bs)=B2 at*;generalize CV i bs=B at*;generalize tfs (i+1)=t2 at*;generalize tfs i=t1 at*;rw[if_pos (by omega),AD];simp only[AA,tM];simp[tL,Bn];simp only[Bn]at p1;refine⟨_,_,p1,?_⟩;simp[AD,tK,hw];omega
 ·have:i=6:=by omega
  subst this;rw[if_neg (by omega),AM];simp
theorem AQ8 (bs:List Bool) (hbs:bs.length=4096):FX 123 [.ref 0 0] [txR bs] [.v (.bool true)] (Bn (CV 6 bs) (tfs 6) (tfs 6)):=by
 refine AV ATW rfl ?_;have q:=ARj bs hbs;generalize Bn (CV 6 bs) (tfs 6) (tfs 6)=HH at*;rw[we];simp only[AB,AA,Sc,AS];simp;refine ATz bs _ ?_;rw[tO];simp only[AB,AA,AG,Sa];simp[SZ,AN,txR,F8];simp[SY,DM];simp only[Bn,txR,F8,F6]at q ⊢;refine Ag _ ?_ q;rintro e ⟨se,sh⟩ ⟨rfl,hh⟩;simp only at hh;subst hh;simp[NQ,AF,ADs]
section
variable {P:Program} {GL:AX}
def Row.low (n:Nat):Row→Bool
 | .cells ds=>D.lts n ds
 | .map _ _ _=>true
 | .dead=>true
 | .obj _ _ _=>false
theorem Dz {n m:Nat} (h:n≤m):∀d:D,D.lt n d=true→D.lt m d=true:=by
 intro d;refine D.rec (motive_1:=λd=>D.lt n d=true→D.lt m d=true) (motive_2:=λl=>D.lts n l=true→D.lts m l=true) ?_ ?_ ?_ ?_ ?_ ?_ ?_ ?_ ?_ ?_ ?_ ?_ ?_ ?_ ?_ ?_ d
 all_goals simp only[D.lt,D.lts,decide_eq_true_eq,AT1,implies_true,true_implies,imp_self]
 all_goals first
  |(intros;omega)
  |(intro a b iha ihb hab;exact⟨iha hab.1,ihb hab.2⟩)
  |(intros;assumption)
  |skip
theorem F1 {μ:List Nat} {r n b:Nat} (h:μ[r]?=some b) (hr:r <n):(μ.take n)[r]?=some b:=by
 rw[AUV,if_pos hr];exact h
theorem Eh {n:Nat}:∀ {ds:List D} {i:Nat} {d:D},D.lts n ds=true→ds[i]?=some d→D.lt n d=true
 |d::ds,i,x,h,hi=>by
  simp only[D.lts,AT1]at h;cases i with
  |zero=>simp at hi;subst hi;exact h.1
  |succ i=>exact Eh h.2 (by simpa using hi)
theorem RepC.low {g:Gh} {μ:List Nat} {n:Nat} {d:D} {u:Value} (h:RepC g μ d u) (hl:D.lt n d=true):RepC g (μ.take n) d u:=by
 cases d<;>simp only[RepC]at h ⊢
 ·exact h
 ·obtain⟨b,hb,rfl⟩:=h;exact⟨b,F1 hb (by simpa[D.lt]using hl),rfl⟩
theorem RepE.low {g:Gh} {w:World} {μ:List Nat} {n:Nat} {d:D} {u:Value} (h:RepE g w μ d u) (hl:D.lt n d=true):RepE g w (μ.take n) d u:=by
 cases d<;>simp only[RepE]at h ⊢ <;>try exact h
 ·obtain⟨b,hb,rfl⟩:=h;exact⟨b,F1 hb (by simpa[D.lt]using hl),rfl⟩
 ·obtain⟨b,cap,hb,rfl,hn⟩:=h;exact⟨b,cap,F1 hb (by simpa[D.lt]using hl),rfl,hn⟩
 ·obtain⟨b,hb,rfl⟩:=h;exact⟨b,F1 hb (by simpa[D.lt]using hl),rfl⟩
 ·obtain⟨vs,rfl,h⟩:=h;exact⟨vs,rfl,h.1,λi x v hx hv=>(h.2 i x v hx hv).low (Eh (by simpa[D.lt]using hl) hx)⟩
 ·obtain⟨vs,rfl,h⟩:=h;exact⟨vs,rfl,h.1,λi x v hx hv=>(h.2 i x v hx hv).low (Eh (by simpa[D.lt]using hl) hx)⟩
 ·obtain⟨b,hb,rfl⟩:=h;exact⟨b,F1 hb (by simpa[D.lt]using hl),rfl⟩
theorem RepG.low {g:Gh} {w:World} {μ:List Nat} {n:Nat} {d:D} {u:Value} (h:RepG g w μ d u) (hl:D.lt n d=true):RepG g w (μ.take n) d u:=by
 cases d<;>simp only[RepG]at h ⊢ <;>first
  |exact h.low hl
  |(obtain⟨vs,rfl,h,h1,h2⟩:=h
    exact⟨vs,rfl,⟨h.1,λi x v hx hv=>(h.2 i x v hx hv).low (Eh (by simpa[D.lt]using hl) hx)⟩,h1,h2⟩)
theorem RepD.low {g:Gh} {w:World} {μ:List Nat} {n:Nat} {d:D} {u:Value} (h:RepD g w μ d u) (hl:D.lt n d=true):RepD g w (μ.take n) d u:=by
 cases d<;>simp only[RepD]at h ⊢ <;>first
  |exact h.low hl
  |(obtain⟨vs,rfl,h⟩:=h
    exact⟨vs,rfl,h.1,λi x v hx hv=>(h.2 i x v hx hv).low (Eh (by simpa[D.lt]using hl) hx)⟩)
theorem Inv.low {g:Gh} {w:World} {μ:List Nat} {t:Nat→D} {u:Nat→Value} {h J:List Row} {O:Nat→Prop} (hi:Inv g w μ t u (h++J) O) (ht:∀n,D.lt h.length (t n)=true) (hh:∀row∈h,Row.low h.length row=true):
  Inv g w (μ.take h.length) t u h O:=by
 have hμl:(μ.take h.length).length=h.length:=by have:=hi.len;simp at this ⊢;omega
 have Bc:∀ {r b:Nat},(μ.take h.length)[r]?=some b→r <h.length∧μ[r]?=some b:=by
  intro r b hb;rw[AUV]at hb;split at hb
  ·exact⟨‹_›,hb⟩
  ·cases hb
 have hblk:∀p b,blk t u h w (μ.take h.length) p=some b→blk t u (h++J) w μ p=some b:=by
  intro p b hp;cases p with
  |tmp n k=>exact hp
  |cell r k=>
   simp only[blk]at hp ⊢;by_cases hr:r <h.length
   ·have e1:Av (h++J) r k=Av h r k:=by simp only[Av,AUQ hr]
    have e2:A0 w (μ.take h.length) r k=A0 w μ r k:=by simp only[A0,AUV,if_pos hr]
    rw[e1,←e2];exact hp
   ·simp only[Av,AUW (show h.length≤r by omega)]at hp;simp[AZ]at hp
 refine⟨hi.agree,hi.olt,λn=>(hi.rep n).low (ht n),hμl,?_,?_,?_,λp q b hp hq=>hi.uniq p q b (hblk p b hp) (hblk q b hq),?_⟩
 ·intro r row b hr hb;obtain⟨hlt,hb⟩:=Bc hb;have hrow:=hi.rows r row b (by rw[AUQ hlt];exact hr) hb;have hlow:=hh row (AT3 hr);cases row with
  |cells ds=>
   obtain⟨vs,T,h1,h2,h3,h4⟩:=hrow;exact⟨vs,T,h1,⟨h2.1,λi x v hx hv=>(h2.2 i x v hx hv).low (Eh hlow hx)⟩,h3,h4⟩
  |map es st ck=>exact hrow
  |obj tag p m=>simp[Row.low]at hlow
  |dead=>exact hrow
 ·intro r r' b hr hr';exact hi.nod r r' b (Bc hr).2 (Bc hr').2
 ·intro b hb;exact hi.mo b (AUi hb)
 ·intro p b hp;obtain⟨h1,h2⟩:=hi.sep p b (hblk p b hp);exact⟨λhm=>h1 (AUi hm),h2⟩
theorem XW {n:Nat} {d:D} (h:D.lt n d=true) (k:Nat):D.lt n (at0 .any d k)=true:=by
 simp only[at0];split
 ·exact h
 ·rfl
theorem EB {n:Nat}:∀ {ds:List D},(∀d∈ds,D.lt n d=true)→D.lts n ds=true
 |[],_=>rfl
 |d::ds,h=>by simp only[D.lts,AT1];exact⟨h d (by simp),EB λx hx=>h x (by simp[hx])⟩
theorem ON {n:Nat} {ds:List D} (h:∀d∈ds,D.lt n d=true):D.lt n (Ba ds)=true:=by
 match ds with
 |[]=>rfl
 |[x]=>exact h x (by simp)
 |x::y::r=>simp only[Ba,D.lt];exact EB h
theorem Ai {f n:Nat} {ac:AC} {rs:List AR} {args rets:List D} {h h':List Row} (hk:DO P GL f n ac rs=true) (hn:args.length=n) (hl:h.length≤h'.length)
  (hh:∀row∈h',Row.low h'.length row=true) (hr:∀d∈rets,D.lt h'.length d=true)
  (hw:awp P GL ac (λe s=>(match e with| .exit _=>False|_=>True)∧De s rs=some rets∧∃J,s.h=h'++J) ⟨AS args,h⟩):FSp P GL f args h rets h':=by
 obtain⟨h1,h2⟩:=Kh (rets:=rets) (h':=h') hk hn (Ag ac (λe s=>by
  rintro⟨h1,h2,J,h3⟩;refine⟨h1,rets,h2,λg w μ v O hi=>⟨μ.take h'.length,λμ0 hμ0 ⟨tl,hp⟩=>?_,?_⟩⟩
  ·subst hp;rw[List.take_append,AUc (by omega)];exact AUz _ _
  ·rw[h3]at hi;exact hi.low (XW (ON hr)) hh) hw)
 refine⟨h1,λg w μ us O hinv hgl hall htame=>h2 g w μ us O hall.1 (hinv.enter (λn=>?_) (λn k=>?_)) hgl⟩
 ·simp only[atL];cases hx:args[n]? with
  |none=>simp[RepD,RepG,RepE]
  |some x=>
   obtain⟨v,hv,hr⟩:=hall.get hx;rw[hv];exact hr.toD
 ·simp only[atL];cases hx:args[n]? with
  |none=>cases k<;>simp[Ab,AZ]
  |some x=>
   obtain⟨v,hv,hr⟩:=hall.get hx;rw[hv];exact E2 hr (htame n x v hx hv) k
end
def b01 (b:Bool):Int:=if b then 1 else 0
def Cx (x:Ivl):List Int:=BJ [x.ln,x.ld,x.hn,x.hd,b01 x.lo,b01 x.ho,b01 x.li,b01 x.hi]
def Cl (f:F):List Int:=Af f.op++(Af f.n++(Af f.ins.length++(f.ins.flatMap Cx++Af f.kids.length)))
def CC (f:F):List Int:=f.nodes.flatMap Cl
theorem ul (b:Bool):PX 295 [.bool b] [.int .i64 (b01 b)]:=by
 refine AK ASC rfl ?_;cases b<;>simp[ANA,awp,fL,fK,fJ,fI,ACP,AY,b01]
theorem Fi:∀(xs:List Int),(∀x∈xs,0≤x∧x <256)→EG (xs.map (V.int .u8))=some (xs.map λn=>UInt8.ofNat n.toNat)
 |[],_=>rfl
 |x::xs,h=>by
  have:=Fi xs λy hy=>h y (by simp[hy]);simp only[AUD,EG];rw[if_pos (h x (by simp)),this];rfl
theorem p99 (xs:List Int) (hx:∀x∈xs,0≤x∧x <256) (hb:xs.length≤2^40) (h:List Row) (r:Nat) (ys:List Int) (hr:h[r]?=some (wr ys)) (hl:ys.length≤2^45):FX 99 [.ref r 0,.v (AL .u8 xs)] h [] (h.set r (wr (ys++BN xs))):=by
 refine AV k99 rfl ?_;obtain⟨b,hb1,hb2⟩:∃b:ByteArray,EG (xs.map (V.int .u8))=some b.data.toList∧Ah b=xs:=by
  refine⟨⟨(xs.map λn=>UInt8.ofNat n.toNat).toArray⟩,by rw[Fi xs hx],?_⟩;simp only[Ah,AVM];conv=>rhs;rw[←List.map_id xs]
  refine AWY λn hn=>?_;obtain⟨h1,h2⟩:=hx n hn;simp only[Function.comp,id];rw[UInt8.toNat_ofNat_of_lt' (by simp[UInt8.size];omega)];omega
 have hsz:b.size=xs.length:=by rw[←JV,hb2]
 simp[c99,awp,yj,AFb,AS,AL,hb1];have hp:=AQc b (by omega) h r ys hr hl;rw[hb2]at hp;exact⟨_,hp⟩
theorem wj (b:Bool):i64 (b01 b):=by cases b<;>(unfold i64 b01;simp)
theorem G4 {α:Type} (l:List α) (f:α→List Int) (k:Nat):((l.take k).flatMap f).length≤(l.flatMap f).length:=by
 have:=congrArg (λl=>(List.flatMap f l).length) (AUr k l);simp only[AVr,AT5]at this;omega
theorem MP {α:Type} {l:List α} {f:α→List Int} {x:α} (h:x∈l):(f x).length≤(l.flatMap f).length:=by
 induction l with
 |nil=>cases h
 |cons y l ih=>
  rw[AUN,AT5];cases h with
  |head=>omega
  |tail _ h=>have:=ih h;omega
def Ci (l:List Int) (k:Nat):Int:=match k with|0=> -1|j+1=>l.getD j 0
def CL (l:List Int) (i:Int) (k:Nat):Bool:=decide (l.getD k 0≤Ci l k∨i≤l.getD k 0)
def DS (l:List Int) (i:Int):Bool:= !(List.range l.length).any (CL l i)
theorem AQC (l:List Int) (i:Int) (hn:l.length≤2^40):PX 241 [AL .i64 l,.int .i64 i] [.bool (DS l i)]:=by
 refine AK ASj rfl ?_;simp only[ANg,AB,AA,AG,kN,kM,kL,AY];simp[AL];refine BQ l.length (λk=>⟨[(1,.v (.int .i64 i)),(5,.v (.int .i64 (Ci l k))),(8,.v (AL .i64 l)),(9,.v (.int .i64 l.length)),(10,.v (.int .i64 k))],[]⟩) (λk=>∀j <k,CL l i j=false) (by simp[AL,Ci]) (by omega) ?_;intro k hk hI;simp only[kO,AB,AA,AG,AE,kK];simp[AL];by_cases h1:k <l.length
 ·obtain⟨x,hx⟩:∃x,l[k]?=some x:=⟨_,AT2 h1⟩;have hw:IntKind.i64.wrap ((k:Int)+1)=k+1:=AJ;have hb:CL l i k=decide (x≤Ci l k∨i≤x):=by unfold CL;simp[List.getD,hx]
  have hlast:Ci l (k+1)=x:=by simp[Ci,List.getD,hx]
  rw[if_pos (by omega),AD];simp only[AA,kJ,kI];simp[hx];by_cases b1:x≤Ci l k
  ·have hbt:CL l i k=true:=by rw[hb];simp[b1]
   simp[b1,AB,AA,AF,RR,Um];unfold DS;rw[Em h1 hbt];rfl
  ·by_cases b2:i≤x
   ·have hbt:CL l i k=true:=by rw[hb];simp[b2]
    simp[b1,b2,AB,AA,AF,RR,Um];unfold DS;rw[Em h1 hbt];rfl
   ·have hbf:CL l i k=false:=by rw[hb];simp;omega
    simp[b1,b2,AD,AA,kH,kG,hw,h1,hlast];intro j hj;rcases AUS j k with h|h
    ·exact hI j h
    ·have:j=k:=by omega
     subst this;exact hbf
 ·have hk2:k=l.length:=by omega
  subst hk2;rw[if_neg (by omega),AM];simp[AA,AF,AB,kF,Um];unfold DS;rw[GS hI];rfl
theorem AQW (l:List Int) (i:Int) (hn:l.length≤2^40):PX 213 [AL .i64 l,.int .i64 i] [.bool (DS l i)]:=by
 refine AK ASw rfl ?_;simp only[ANx,AB,AA,AG,m9,mz,AY];simp[AL];refine BQ l.length (λk=>⟨[(0,.v (AL .i64 l)),(1,.v (.int .i64 i)),(5,.v (.int .i64 k))],[]⟩) (λk=>∀j <k,CL l i j=false) (by simp[AL]) (by omega) ?_;intro k hk hI;have hge: -1≤Ci l k:=by
  have:∀k,(∀j <k,CL l i j=false)→ -1≤Ci l k:=by
   intro k;induction k with
   |zero=>intro _;simp[Ci]
   |succ j ih=>
    intro h;have h1:=ih λj' h'=>h j' (by omega);have h2:=h j (by omega);unfold CL at h2;simp at h2;have e:Ci l (j+1)=l.getD j 0:=rfl;rw[e];simp only[AWm]at *;omega
  exact this k hI
 simp only[nB,AB,AA,AW,AG,AE,my];simp[AL];by_cases h1:k <l.length
 ·obtain⟨x,hx⟩:∃x,l[k]?=some x:=⟨_,AT2 h1⟩;have hw:IntKind.i64.wrap ((k:Int)+1)=k+1:=AJ;have hb:CL l i k=decide (x≤Ci l k∨i≤x):=by unfold CL;simp[List.getD,hx]
  have hbad:CL l i k=true→DS l i=false:=by intro h;unfold DS;rw[Em h1 h];rfl
  have hgood:CL l i k=false→∀j <k+1,CL l i j=false:=by
   intro hbf j hj;rcases AUS j k with h|h
   ·exact hI j h
   ·have:j=k:=by omega
    subst this;exact hbf
  rw[if_pos (by omega),AD];simp only[AW,mw];by_cases b1:x <0
  ·have hbt:CL l i k=true:=by rw[hb];simp;omega
   simp[hx,b1,AB,AA,AF,My,PD,hbad hbt]
  ·by_cases b2:i≤x
   ·have hbt:CL l i k=true:=by rw[hb];simp[b2]
    simp[hx,b1,b2,AB,AA,AF,My,PD,hbad hbt]
   ·cases k with
    |zero=>
     have hbf:CL l i 0=false:=by
      have e:Ci l 0= -1:=rfl;rw[hb,e];simp;omega
     have hx2:l[0]=x:=(AT4.1 hx).2;simp at hw;simp[hx,hx2,b1,b2,AD,AA,RY,hw,h1];exact hbf
    |succ j=>
     obtain⟨y,hy⟩:∃y,l[j]?=some y:=⟨_,AT2 (by omega)⟩;have hw2:IntKind.i64.wrap (j:Int)=j:=AJ;have hl:Ci l (j+1)=y:=by simp[Ci,List.getD,hy]
     have hx2:l[j+1]=x:=(AT4.1 hx).2;have h9:(0:Int) <(j:Int)+1:=by omega
     have h10:(0:Int)≤(j:Int)+1:=by omega
     by_cases b3:x≤y
     ·have hbt:CL l i (j+1)=true:=by rw[hb,hl];simp[b3]
      simp[b1,b2,h9,h10,hw2,hx,hx2,hy,b3,AB,AA,AF,My,PD,hbad hbt]
     ·have hbf:CL l i (j+1)=false:=by rw[hb,hl];simp;omega
      simp at hw;simp[b1,b2,h9,h10,hw2,hx,hx2,hy,b3,AD,AA,RY,hw,h1];exact hgood hbf
 ·have hk2:k=l.length:=by omega
  subst hk2;rw[if_neg (by omega),AM];simp[AA,AF,AB,mu,PD];unfold DS;rw[GS hI];rfl
structure Clm where
 refs:List Int
 body:F
def Clm.V (c:Clm):V:= .agg [AL .i64 c.refs,.int .i64 c.body.op,.int .i64 c.body.n,.list (c.body.ins.map Ivl.V),.list (c.body.kids.map F.V)]
def Clm.ok (c:Clm):Prop:=(∀n∈c.refs,i64 n)∧c.refs.length≤2^40∧c.body.ok
theorem F.V_flds (f:F):f.V= .agg [.int .i64 f.op,.int .i64 f.n,.list (f.ins.map Ivl.V),.list (f.kids.map F.V)]:=by cases f;rw[F.V_eq];rfl
def Eo (e:Nat→Int):Nat→Nat→Int
 |_,0=>0
 |k,m+1=>if e k≠0 then e k else Eo e (k+1) m
theorem Ek {e:Nat→Int}:∀(m k:Nat),(∀j,k≤j→j <k+m→e j=0)→Eo e k m=0
 |0,_,_=>rfl
 |m+1,k,h=>by
  simp only[Eo,h k (by omega) (by omega)];simpa using Ek m (k+1) λj h1 h2=>h j (by omega) (by omega)
theorem Gk {e:Nat→Int}:∀(m k i:Nat),k≤i→i <k+m→(∀j,k≤j→j <i→e j=0)→e i≠0→Eo e k m=e i
 |0,k,i,h1,h2,_,_=>by omega
 |m+1,k,i,h1,h2,h,hi=>by
  by_cases hk:k=i
  ·subst hk;simp only[Eo,if_pos hi]
  ·simp only[Eo,h k (by omega) (by omega)];simpa using Gk m (k+1) i (by omega) (by omega) (λj h3 h4=>h j (by omega) h4) hi
def Kf (c:Clm) (k:Nat):Int:=if c.refs.length>8 then 4 else if DS c.refs k then BM c.body else 1
def IA (l:List Clm) (k:Nat):Int:=match l[k]? with|none=>0|some c=>Kf c k
def CR (l:List Clm):Int:=if l.length>32 then 4 else Eo (IA l) 0 l.length
theorem AEh (l:List Clm) (hl:∀c∈l,c.ok) (hn:l.length≤2^40):PX 138 [.list (l.map Clm.V)] [.int .i64 (CR l)]:=by
 refine AK ALK rfl ?_;obtain⟨R,hR⟩:∃R,CR l=R:=⟨_,rfl⟩;rw[hR];unfold CR at hR;simp only[AIU,AB,AA,AG,AE,re,rb,AY];simp;by_cases h32:32 <l.length
 ·have h32':32 <(l.length:Int):=by omega
  simp[h32]at hR;simp[h32',AB,AA,AF,ra,Kl,hR]
 ·have h32':¬32 <(l.length:Int):=by omega
  simp only[gt_iff_lt,h32,if_false]at hR;simp[h32',AD,AA,rZ];refine Aa l.length (λk s=>s.e=[(9,.v (.list (l.map Clm.V))),(10,.v (.int .i64 l.length)),(11,.v (.int .i64 k))]∧∀j <k,IA l j=0) ⟨rfl,by omega⟩ ?_;rintro k ⟨se,sh⟩ hk ⟨he,hI⟩;simp only at he;subst he;simp only[rf,AB,AA,AG,AE,rY];simp;by_cases h1:k <l.length
  ·obtain⟨x,hx⟩:∃x,l[k]?=some x:=⟨_,AT2 h1⟩;obtain⟨o1,o2,o3⟩:=hl x (AT3 hx);have hw:IntKind.i64.wrap ((k:Int)+1)=k+1:=AJ;have hat:IA l k=Kf x k:=by unfold IA;rw[hx]
   have hbad:Kf x k≠0→R=Kf x k:=λh=>by rw[←hR,Gk l.length 0 k (by omega) (by omega) (λj _ h3=>hI j h3) (by rw[hat];exact h),hat]
   have p1:=(AQC x.refs k o2).fsp;have p2:=(p66 x.body o3).fsp;rw[F.V_flds]at p2;unfold Kf at hbad hat;rw[if_pos (by omega),AD];simp only[AA,rX,rW];simp[hx,Clm.V,AL,AN];simp[AL]at p1 p2;by_cases b1:8 <x.refs.length
   ·have b1':8 <(x.refs.length:Int):=by omega
    simp[b1]at hbad;simp[b1',AB,AA,AF,rV,Kl,hbad]
   ·have b1':¬8 <(x.refs.length:Int):=by omega
    simp only[gt_iff_lt,b1,if_false]at hbad hat;simp[b1',AB,AA,AE,rU];refine⟨_,_,p1 _,?_⟩;cases hr:DS x.refs k with
    |false=>
     simp[hr]at hbad;simp[AE,AB,AA,AF,rT,Kl,hbad]
    |true=>
     simp[hr]at hbad hat;simp[AE,AD,AB,AA,Vi];refine⟨_,_,p2 _,?_⟩;by_cases b2:BM x.body=0
     ·rw[b2]at hat;simp[b2,NJ,AE,AD,AA,Vg,hw,h1];intro j hj;rcases AUS j k with h|h
      ·exact hI j h
      ·have:j=k:=by omega
       subst this;exact hat
     ·simp[b2,NJ,AE,AB,AA,AF,Vh,Kl,hbad b2]
  ·have hk2:k=l.length:=by omega
   subst hk2;rw[if_neg (by omega),AM];rw[Ek _ _ (λj _ h3=>hI j (by omega))]at hR;simp[AA,AF,AB,Vf,Kl,hR]
theorem AQ6 (l:List Clm) (hl:∀c∈l,c.ok) (hn:l.length≤2^40):PX 126 [.list (l.map Clm.V)] [.int .i64 (CR l)]:=by
 refine AK ATT rfl ?_;obtain⟨R,hR⟩:∃R,CR l=R:=⟨_,rfl⟩;rw[hR];unfold CR at hR;simp only[AOx,AB,AA,AG,AE,s9,s8,AY];simp;by_cases h32:32 <l.length
 ·have h32':32 <(l.length:Int):=by omega
  simp[h32]at hR;simp[h32',AB,AA,AF,sw,Ls,hR]
 ·have h32':¬32 <(l.length:Int):=by omega
  simp only[gt_iff_lt,h32,if_false]at hR;simp[h32',AD,AA,su];refine BQ l.length (λk=>⟨[(0,.v (.list (l.map Clm.V))),(3,.v (.int .i64 k))],[]⟩) (λk=>∀j <k,IA l j=0) rfl (by omega) ?_;intro k hk hI;simp only[tA,AB,AA,AG,AE,sr];simp;by_cases h1:k <l.length
  ·obtain⟨x,hx⟩:∃x,l[k]?=some x:=⟨_,AT2 h1⟩;obtain⟨o1,o2,o3⟩:=hl x (AT3 hx);have hw:IntKind.i64.wrap ((k:Int)+1)=k+1:=AJ;have hat:IA l k=Kf x k:=by unfold IA;rw[hx]
   have hbad:Kf x k≠0→R=Kf x k:=λh=>by rw[←hR,Gk l.length 0 k (by omega) (by omega) (λj _ h3=>hI j h3) (by rw[hat];exact h),hat]
   have p1:=(AQW x.refs k o2).fsp;have p2:=(AQV x.body o3).fsp;rw[F.V_flds]at p2;unfold Kf at hbad hat;rw[if_pos (by omega),AD];simp only[AA,so];simp[hx,Clm.V,AL,AN];simp[AL]at p1 p2;by_cases b1:8 <x.refs.length
   ·have b1':8 <(x.refs.length:Int):=by omega
    simp[b1]at hbad;simp[b1',AB,AA,AF,sn,Ls,hbad]
   ·have b1':¬8 <(x.refs.length:Int):=by omega
    simp only[gt_iff_lt,b1,if_false]at hbad hat;simp[b1',hx,Clm.V,AL,AD,AB,AA,AE,sm];refine⟨_,_,p1 _,?_⟩;cases hr:DS x.refs k with
    |false=>
     simp[hr]at hbad;simp[AE,AB,AA,AF,sk,Ls,hbad]
    |true=>
     simp[hr]at hbad hat;simp[hx,Clm.V,AL,AE,AD,AB,AA,Vv];refine⟨_,_,p2 _,?_⟩;by_cases b2:BM x.body=0
     ·rw[b2]at hat;simp[b2,NN,AE,AD,AA,sq,hw,h1];intro j hj;rcases AUS j k with h|h
      ·exact hI j h
      ·have:j=k:=by omega
       subst this;exact hat
     ·simp[b2,NN,AE,AB,AA,AF,Vu,Ls,hbad b2]
  ·have hk2:k=l.length:=by omega
   subst hk2;rw[if_neg (by omega),AM];rw[Ek _ _ (λj _ h3=>hI j (by omega))]at hR;simp[AA,AF,AB,Vt,Ls,hR]
def Bd (c:Clm):List Int:=BJ c.refs++BN (CC c.body)
def BP (l:List Clm):List Int:=Af l.length++l.flatMap Bd
structure Dat where
 cl:Int
 ix:Int
 day:Int
 file:Int
structure Own where
 party:Int
 num:Int
 den:Int
structure Lic where
 fr:Int
 to:Int
 fst:Int
 lst:Int
structure Rgt where
 file:Int
 state:Int
 force:Int
 claims:List Clm
 dates:List Dat
 bad:List Int
 owners:List Own
 lics:List Lic
def Dat.V (d:Dat):V:= .agg [.int .i64 d.cl,.int .i64 d.ix,.int .i64 d.day,.int .i64 d.file]
def Own.V (o:Own):V:= .agg [.int .i64 o.party,.int .i64 o.num,.int .i64 o.den]
def Lic.V (h:Lic):V:= .agg [.int .i64 h.fr,.int .i64 h.to,.int .i64 h.fst,.int .i64 h.lst]
def Rgt.cs (r:Rgt):List V:=[.int .i64 r.file,.int .i64 r.state,.int .i64 r.force,.list (r.claims.map Clm.V),.list (r.dates.map Dat.V),AL .i64 r.bad,.list (r.owners.map Own.V),.list (r.lics.map Lic.V)]
def Rgt.V (r:Rgt):V:= .agg r.cs
def Dat.ok (d:Dat):Prop:=i64 d.cl∧i64 d.ix∧i64 d.day∧i64 d.file
def Own.ok (o:Own):Prop:=i64 o.party∧i64 o.num∧i64 o.den
def Lic.ok (h:Lic):Prop:=i64 h.fr∧i64 h.to∧i64 h.fst∧i64 h.lst
structure Rgt.ok (r:Rgt):Prop where
 file:i64 r.file
 state:i64 r.state
 force:i64 r.force
 claims:∀c∈r.claims,c.ok
 dates:∀d∈r.dates,d.ok
 bad:∀n∈r.bad,i64 n
 owners:∀o∈r.owners,o.ok
 lics:∀h∈r.lics,h.ok
 lc:r.claims.length≤2^30
 ld:r.dates.length≤2^30
 lb:r.bad.length≤2^30
 lo:r.owners.length≤2^30
 ll:r.lics.length≤2^30
 enc:(BP r.claims).length≤2^39
def inI (n lo hi:Int):Bool:=decide (lo≤n∧n≤hi)
def CA {α:Type} (f:α→α→Bool):List α→Bool
 |x::y::l=>f x y&&CA f (y::l)
 |_=>true
def Fs (n:Nat) (d:Dat):Bool:=inI d.cl 0 (n-1)&&inI d.ix 0 63&&inI d.day 0 131072&&inI d.file 0 4095
def Ft (a b:Dat):Bool:=decide (a.cl <b.cl∨a.cl=b.cl∧a.ix <b.ix)
def EO (o:Own):Bool:=inI o.party 1 4095&&okR o.num o.den&&decide (0 <o.num∧o.num≤o.den)
def Fp (h:Lic):Bool:=inI h.fr 1 4095&&inI h.to 1 4095&&inI h.fst 0 h.lst&&decide (h.lst≤131072)
def Au (r:Rgt):Bool:=
 inI r.file 0 4095&&inI r.state 0 4&&inI r.force 0 4&&CR r.claims==0&&decide (r.dates.length≤4096)&&decide (r.lics.length≤4096)&&
 (r.dates.all (Fs r.claims.length)&&CA Ft r.dates)&&(r.bad.all (λi=>inI i 0 (r.claims.length-1))&&CA (λa b=>decide (a <b)) r.bad)&&
 (r.owners.all EO&&CA (λa b=>decide (a.party <b.party)) r.owners)&&r.lics.all Fp
def B8 (d:Dat):List Int:=Af d.cl++Af d.ix++Af d.day++Af d.file
def By (o:Own):List Int:=Af o.party++Af o.num++Af o.den
def Bz (h:Lic):List Int:=Af h.fr++Af h.to++Af h.fst++Af h.lst
def Az (r:Rgt):List Int:=
 Af r.file++Af r.state++Af r.force++BN (BP r.claims)++Af r.dates.length++r.dates.flatMap B8++BJ r.bad++
 Af r.owners.length++r.owners.flatMap By++Af r.lics.length++r.lics.flatMap Bz
def Aq (a n:Int):Int:=if a <0 then (IntKind.i64.wrap (0-IntKind.i64.wrap (a+1))).tmod n else a.tmod n
theorem p11 (a n:Int) (hn:n≠0):PX 11 [.int .i64 a,.int .i64 n] [.int .i64 (Aq a n)]:=by
 refine AK k11 rfl ?_;unfold Aq;by_cases h1:a <0<;>simp[c11,awp,ADy,ADx,ADw,ADv,AO2,AY,h1,hn]
def Ac (l:List Int) (i n:Int):Int:=if i <0 then 0 else match l[i.toNat]? with|some x=>Aq x n|none=>0
theorem p47 (l:List Int) (i n:Int) (hn:n≠0):PX 47 [AL .i64 l,.int .i64 i,.int .i64 n] [.int .i64 (Ac l i n)]:=by
 refine AK k47 rfl ?_;unfold Ac;by_cases h1:i <0
 ·simp[c47,awp,UJ,UI,bt,vW,AY,h1,AL]
 ·by_cases h2:(l.length:Int)≤i
  ·have:l[i.toNat]?=none:=by rw[List.getElem?_eq_none_iff];omega
   simp[c47,awp,UJ,UI,bt,vW,AY,h1,h2,AL,this]
  ·have hlt:i.toNat <l.length:=by omega
   have hx:l[i.toNat]?=some l[i.toNat]:=AT2 hlt;have h0:0≤i:=by omega
   simp[c47,awp,UJ,UI,ABo,vW,AY,h1,h2,AL,hx,h0,V.cells,Db,D.norm,As,D.arg];refine⟨_,⟨_,(p11 l[i.toNat] n hn).fsp []⟩,?_⟩;simp[Ba]
def CY (k:Int):F:= .mk 1 ((IntKind.i64.wrap (k.tdiv 8)).tmod 6) [] []
def Cp (k:Int):F:= .mk 2 ((IntKind.i64.wrap (k.tdiv 8)).tmod 2) [⟨(IntKind.i64.wrap (k.tdiv 48)).tmod 4,1,
 IntKind.i64.wrap (IntKind.i64.wrap ((IntKind.i64.wrap (k.tdiv 48)).tmod 4+1)+(IntKind.i64.wrap (k.tdiv 192)).tmod 2),1,(IntKind.i64.wrap (k.tdiv 384)).tmod 2==1,false,false,false⟩] []
def Cw (n:Int):F:=
 let k:=Aq n 1048576
 if k.tmod 8=0∨k.tmod 8=1∨k.tmod 8=2 then CY k
 else if k.tmod 8=3∨k.tmod 8=4 then Cp k
 else if k.tmod 8=5 then .mk 4 0 [] [Cp k,CY k]
 else if k.tmod 8=6 then .mk 3 0 [] [CY k]
 else .mk 6 0 [] [CY k]
set_option maxHeartbeats 2000000 in
theorem AJl (n:Int):PX 212 [.int .i64 n] [(Cw n).V]:=by
 refine AK ASx rfl ?_;have p1:=(p11 n 1048576 (by decide)).fsp;unfold Cw CY Cp;generalize Aq n 1048576=k at*;simp at p1;simp only[ANy,AB,AA,AG,AE,nI,nH,AY];simp;refine⟨_,_,p1 _,?_⟩;simp[nG,AN];simp[nF,AN];simp[nE,AN];simp[nD,AN];by_cases h0:k.tmod 8=0
 ·simp[Fh,Fg,h0,AB,AD,AA,Jt,AN,AF,IM,F.V_eq]
 by_cases h1:k.tmod 8=1
 ·simp[Fh,Fg,GO,h1,AB,AD,AA,AE,Jt,AN,AF,IM,F.V_eq]
 by_cases h2:k.tmod 8=2
 ·simp[Fh,Fg,GO,HS,h2,AB,AD,AA,AE,Jt,AN,AF,IM,F.V_eq]
 by_cases h3:k.tmod 8=3
 ·simp[Fh,Fg,GO,HS,Gp,h3,AB,AD,AA,AE,M0,AN,AF,IM,F.V_eq,Ivl.V]
 by_cases h4:k.tmod 8=4
 ·simp[Fh,Fg,GO,HS,Gp,IL,h4,AB,AD,AA,AE,M0,AN,AF,IM,F.V_eq,Ivl.V]
 by_cases h5:k.tmod 8=5
 ·simp[Fh,Fg,GO,HS,Gp,IL,Js,h5,AB,AD,AA,AE,U1,AN,AF,IM,F.V_eq,Ivl.V]
 by_cases h6:k.tmod 8=6
 ·simp[Fh,Fg,GO,HS,Gp,IL,Js,Mz,h6,AB,AD,AA,AE,U0,AN,AF,IM,F.V_eq]
 simp[Fh,Fg,GO,HS,Gp,IL,Js,Mz,h0,h1,h2,h3,h4,h5,h6,AB,AD,AA,AE,Uz,AN,AF,IM,F.V_eq]
theorem Dn (a n:Int) (hn:0 <n): -n <Aq a n∧Aq a n <n:=by
 have key:∀b:Int,-n <b.tmod n∧b.tmod n <n:=λb=>by
  have h1:=AVt b hn;have h2:=AVt (-b) hn;rw[Int.neg_tmod]at h2;omega
 unfold Aq;split<;>exact key _
theorem Dq (l:List Int) (i n:Int) (hn:0 <n): -n <Ac l i n∧Ac l i n <n:=by
 unfold Ac;split
 ·omega
 ·split
  ·exact Dn _ _ hn
  ·omega
def Fc (l:List Int) (i:Nat):Clm:=
 let k:=Ac l (2*i+1) 1000
 let m:=Ac l (2*i+2) 1048576
 ⟨if i=2∧(IntKind.i64.wrap (k.tdiv 16)).tmod 4=0 then [0,1] else if 0 <i∧(IntKind.i64.wrap (k.tdiv 4)).tmod 2=0 then [(IntKind.i64.wrap (k.tdiv 8)).tmod i] else [],
  if k.tmod 4=0 then .mk 5 0 [] [Cw m,Cw (IntKind.i64.wrap (k.tdiv 4))] else Cw m⟩
def G2 (l:List Int):Nat:=(1+Ac l 0 3).toNat
def Bk (l:List Int):List Clm:=(List.range (G2 l)).map (Fc l)
theorem Ho (l:List Int):G2 l≤3:=by have:=Dq l 0 3 (by decide);unfold G2;omega
def tD:AC:=(.seq (.seq (.reg NP [0,3,4,5,6,7,46]) (.cond (.t 46 false) (.reg NO [0,3,4,5,6,7]) .skip)) (.seq (.seq (.reg EF [0,3,4,5,7,60]) (.cond (.t 60 false) (.reg Ju [0,3,4,5,7]) .skip)) (.reg EE [0,3,4,5])))
def tI:AC:=(.seq (.reg ST [0,3,4,5,6,7,30]) (.cond (.t 30 false) (.regD SS [0,3,4,5,6,7] [[],[0],[],[2],[2,3],[0,1,2,3,4],[0,1,2,3,4,5],[0,1,2,3,4,5,6],[0,1,2,3,4,5,6,7]]) .skip))
theorem Wo:tJ=(.seq (.seq (.reg SX [0,3,4,5,13]) (.cond (.t 13 false) .skip (.exit 0))) (.seq (.block 1 (.seq (.reg SV [0,3,4,5,6]) (.seq (.reg SU [0,3,4,5,6,7]) (.seq tI tD)))) (.reg SW [0,3,4,5]))):=rfl
def S9 (i:Nat) (k:Int):List Int:=if i=2∧(IntKind.i64.wrap (k.tdiv 16)).tmod 4=0 then [0,1] else if 0 <i∧(IntKind.i64.wrap (k.tdiv 4)).tmod 2=0 then [(IntKind.i64.wrap (k.tdiv 8)).tmod i] else []
theorem AKX (i:Nat) (k:Int) (b:F) (d0 d4 dI:D) (hdI:dI.copy= .v (.list (b.ins.map Ivl.V))) (xs:List V) (J:List Row) (hi:i≤3) (hxs:xs.length≤3) (hh:CK 5 xs=true) (Q:AExit→St→Prop)
  (hQ:∀J',Q .normal ⟨[(0,d0),(3,.own 130 5 (xs++[Clm.V ⟨S9 i k,b⟩])),(4,d4),(5,.v (.int .i64 i))],J'⟩):
  ∀e,AH e 0=d0→AH e 3= .own 130 5 xs→AH e 4=d4→AH e 5= .v (.int .i64 i)→AH e 6= .v (.int .i64 k)→AH e 7= .ref J.length 0→awp Tryz.prog GLx tD Q ⟨e,
   J++[.cells [.own 3 1 [],.v (.int .i64 b.op),.v (.int .i64 b.n),dI,.v (.list (b.kids.map F.V))]]⟩:=by
 simp only[D.copy]at hdI;intro e f0 f3 f4 f5 f6 f7;have hroom:Ae (xs.length+1) 88=true:=by simp[Ae];omega
 have hq:∀(refs:List Int) J',refs=S9 i k→Q .normal ⟨[(0,d0),(3,.own 130 5 (xs++[V.agg [.list (refs.map (.int .i64)),.int .i64 b.op,.int .i64 b.n,.list (b.ins.map Ivl.V),.list (b.kids.map F.V)]])),(4,d4),(5,.v (.int .i64 i))],J'⟩:=by
  rintro refs J' rfl;exact hQ J'
 clear hQ;unfold S9 at hq;unfold tD;simp only[AB,AA,AE,NP];simp[f0,f3,f4,f5,f6,f7];by_cases hi0:i=0
 ·subst hi0;simp[AD,EF,EE,hroom,hdI];exact hq [] _ (by simp)
 have hi1:0 <i:=by omega
 have hi1':(i:Int)≠0:=by omega
 by_cases h2:(IntKind.i64.wrap (k.tdiv 4)).tmod 2=0
 ·simp[hi1,h2,AA,NO,hi1',hi0];by_cases h3:i=2
  ·subst h3;by_cases h4:(IntKind.i64.wrap (k.tdiv 16)).tmod 4=0
   ·simp[EF,h4,AA,Ju,EE,hroom,hdI];exact hq [0,1] _ (by simp[h4])
   ·simp[EF,h4,AD,EE,hroom,hdI];exact hq [(IntKind.i64.wrap (k.tdiv 8)).tmod 2] _ (by simp[h4,h2])
  ·have h3':¬(i:Int)=2:=by omega
   simp[EF,h3,h3',AD,EE,hroom,hdI];exact hq [(IntKind.i64.wrap (k.tdiv 8)).tmod i] _ (by simp[h3,h2,hi1])
 ·simp[hi1,h2,AD];by_cases h3:i=2
  ·subst h3;by_cases h4:(IntKind.i64.wrap (k.tdiv 16)).tmod 4=0
   ·simp[EF,h4,AA,Ju,EE,hroom,hdI];exact hq [0,1] _ (by simp[h4])
   ·simp[EF,h4,AD,EE,hroom,hdI];exact hq [] _ (by simp[h4,h2])
  ·have h3':¬(i:Int)=2:=by omega
   simp[EF,h3,h3',AD,EE,hroom,hdI];exact hq [] _ (by simp[h3,h2])
theorem AKY (k:Int) (f g:F) (hg:PX 212 [.int .i64 (IntKind.i64.wrap (k.tdiv 4))] [g.V]) (d0 d4 d5:D) (xs:List V) (J:List Row) (Q:AExit→St→Prop)
  (hQ:∀(b:F) e (dI:D),dI.copy= .v (.list (b.ins.map Ivl.V))→b=(if k.tmod 4=0 then .mk 5 0 [] [f,g] else f)→AH e 0=d0→AH e 3= .own 130 5 xs→AH e 4=d4→AH e 5=d5→AH e 6= .v (.int .i64 k)→AH e 7= .ref J.length 0→Q .normal ⟨e,
   J++[.cells [.own 3 1 [],.v (.int .i64 b.op),.v (.int .i64 b.n),dI,.v (.list (b.kids.map F.V))]]⟩):
  awp Tryz.prog GLx tI Q ⟨[(0,d0),(3,.own 130 5 xs),(4,d4),(5,d5),(6,.v (.int .i64 k)),(7,.ref J.length 0)],
   J++[.cells [.own 3 1 [],.v (.int .i64 f.op),.v (.int .i64 f.n),.v (.list (f.ins.map Ivl.V)),.v (.list (f.kids.map F.V))]]⟩:=by
 unfold tI;simp only[AB,AA,AE,ST];simp;by_cases h4:k.tmod 4=0
 ·rw[if_pos h4]at hQ ⊢;have hQ:=hQ _ [(0,d0),(3,.own 130 5 xs),(4,d4),(5,d5),(6,.v (.int .i64 k)),(7,.ref J.length 0)] (.own 368 8 []) rfl rfl rfl rfl rfl rfl rfl rfl;simp only[F.op,F.n,F.ins,F.kids,AUD,AVe]at hQ;rw[F.V_flds]at hg;rw[F.V_flds f,F.V_flds g]at hQ;simp only[AW,SS];simp;refine⟨_,_,⟨rfl,rfl⟩,_,hg,?_⟩;simp[AN];exact hQ
 ·rw[if_neg h4]at hQ ⊢;rw[AD];exact hQ f _ _ rfl rfl rfl rfl rfl rfl rfl rfl
theorem AQ7 (l:List Int):PX 124 [AL .i64 l] [.list ((Bk l).map Clm.V)]:=by
 refine AK ATV rfl ?_;have p1:=(p47 l 0 3 (by decide)).fsp;have hb:=Dq l 0 3 (by decide);have hm:G2 l=(1+Ac l 0 3).toNat:=rfl;have hm3:=Ho l;have w1:IntKind.i64.wrap (1+Ac l 0 3)=1+Ac l 0 3:=AJ;simp[AL]at p1;simp only[AOz,AB,AA,AG,tH,tG,tF,tE,AY];simp[AL];refine⟨_,_,p1 _,?_⟩;simp[w1];generalize 1+Ac l 0 3=M at*;refine Aa (G2 l) (λi s=>s.e=[(0,.v (AL .i64 l)),(3,.own 130 5 ((List.range i).map λj=>(Fc l j).V)),(4,.v (.int .i64 M)),(5,.v (.int .i64 i))]) (by simp[AL]) ?_;rintro i ⟨se,J⟩ hi he;simp only at he;subst he;rw[Wo];simp only[AB,AA,AG,AE,SX];simp[AL];by_cases hlt:i <G2 l
 ·have hlt':(i:Int) <M:=by omega
  have v1:IntKind.i64.wrap (2*(i:Int))=2*i:=AJ;have v2:IntKind.i64.wrap (2*(i:Int)+1)=2*i+1:=AJ;have v3:IntKind.i64.wrap (2*(i:Int)+2)=2*i+2:=AJ;have hw:IntKind.i64.wrap ((i:Int)+1)=i+1:=AJ;have p2:=(p47 l (2*i+1) 1000 (by decide)).fsp;have p3:=(p47 l (2*i+2) 1048576 (by decide)).fsp;have hcl:∀b,b=(if (Ac l (2*i+1) 1000).tmod 4=0 then F.mk 5 0 [] [Cw (Ac l (2*i+2) 1048576),Cw (IntKind.i64.wrap ((Ac l (2*i+1) 1000).tdiv 4))] else Cw (Ac l (2*i+2) 1048576))→(⟨S9 i (Ac l (2*i+1) 1000),b⟩:Clm)=Fc l i:=by
   rintro b rfl;rfl
  have p4:=(AJl (Ac l (2*i+2) 1048576)).fsp;have p5:=AJl (IntKind.i64.wrap ((Ac l (2*i+1) 1000).tdiv 4));generalize Ac l (2*i+1) 1000=k at*;generalize Ac l (2*i+2) 1048576=m at*;generalize Cw m=f at*;generalize Cw (IntKind.i64.wrap (k.tdiv 4))=g at*;rw[F.V_flds]at p4;simp[AL]at p2 p3 p4;rw[if_pos hlt',AD];simp only[AA,SV];simp[v1,v2];refine⟨_,_,p2 _,?_⟩;simp[SU,v1,v3];refine⟨_,_,p3 _,?_⟩;simp;refine⟨_,_,p4 _,?_⟩;simp[AN];refine AKY k f g p5 _ _ _ _ J _ ?_;intro b e dI hdI hbb f0 f3 f4 f5 f6 f7;simp only[];refine AKX i k b _ _ dI hdI _ J (by omega) (by simp;omega) ?_ _ ?_ e f0 f3 f4 f5 f6 f7
  ·cases i with
   |zero=>rfl
   |succ i=>simp[AWL,Clm.V]
  ·intro J';rw[hcl b hbb];simp[SW,hw,hlt,AU0]
 ·have:i=G2 l:=by omega
  subst this;have hlt':¬((G2 l:Nat):Int) <M:=by omega
  rw[if_neg hlt',AM];simp[AA,AF,Vw,ADq,Bk,AL,AWU]
def Wc (l:List Int) (i:Nat):Dat:=⟨i,(Ac l (4+i) 1000).tmod 3,IntKind.i64.wrap (36000+(Ac l (4+i) 1000).tmod 50),(Ac l (4+i) 1000).tmod 20⟩
def LE (l:List Int) (i:Nat):Option Int:=if (Ac l (4+i) 1000).tmod 5=0 then some i else none
def XR (l:List Int) (i:Nat):Own:=⟨IntKind.i64.wrap (1+2*i+(Ac l (9+i) 1000).tmod 2),1,Ac l 8 3⟩
def MI (l:List Int) (i:Nat):Option Lic:=
 let k:=Ac l (9+i) 1000
 if k.tmod 3=0 then some ⟨IntKind.i64.wrap (1+k.tmod 5),IntKind.i64.wrap (2+k.tmod 7),k,IntKind.i64.wrap (k+IntKind.i64.wrap (k.tdiv 7))⟩ else none
def Dd (l:List Int):Rgt:=
 ⟨Ac l 0 40,Ac l 1 5,if Ac l 2 3=0 then Ac l 3 5 else 0,Bk l,(List.range (Bk l).length).map (Wc l),(List.range (Bk l).length).filterMap (LE l),
  (List.range (Ac l 8 3).toNat).map (XR l),(List.range (Ac l 8 3).toNat).filterMap (MI l)⟩
theorem JR (l:List Int):(Bk l).length≤3:=by have:=Ho l;simpa[Bk]using this
def mkR (a b c:Int) (cl:List Clm) (ds:List Dat) (bad:List Int) (os:List Own) (ls:List Lic):Row:=
 .cells [.v (.int .i64 a),.v (.int .i64 b),.v (.int .i64 c),.v (.list (cl.map Clm.V)),.own 131 4 (ds.map Dat.V),.own 3 1 (bad.map (.int .i64)),.own 135 3 (os.map Own.V),.own 137 4 (ls.map Lic.V)]
theorem AKI (l:List Int) (a b c:Int) (cl:List Clm) (hcl:cl.length≤3) (R0:Row):
  awp Tryz.prog GLx (.loop UH) (λe s=>e= .exit 0∧AH s.e 0= .v (AL .i64 l)∧AH s.e 2= .ref 0 0∧AH s.e 3= .ref 1 0∧s.h=[R0,mkR a b c cl ((List.range cl.length).map (Wc l)) ((List.range cl.length).filterMap (LE l)) [] []])
   ⟨[(0,.v (AL .i64 l)),(2,.ref 0 0),(3,.ref 1 0),(4,.v (.int .i64 0))],[R0,mkR a b c cl [] [] [] []]⟩:=by
 refine Ad cl.length (λi=>⟨[(0,.v (AL .i64 l)),(2,.ref 0 0),(3,.ref 1 0),(4,.v (.int .i64 i))],[R0,mkR a b c cl ((List.range i).map (Wc l)) ((List.range i).filterMap (LE l)) [] []]⟩) (by simp) ?_;intro i hi;simp only[UH,AB,AA,AG,AE,ABn];simp[mkR];by_cases hlt:i <cl.length
 ·have v1:IntKind.i64.wrap (4+(i:Int))=4+i:=AJ;have hw:IntKind.i64.wrap ((i:Int)+1)=i+1:=AJ;have p1:=(p47 l (4+i) 1000 (by decide)).fsp;have hlb:((List.range i).filterMap (LE l)).length≤i:=by have:=AVu (LE l) (List.range i);simpa using this
  have r1:Ae (i+1) 32=true:=by simp[Ae];omega
  have r2:Ae (((List.range i).filterMap (LE l)).length+1) 8=true:=by simp[Ae];omega
  simp[AL]at p1;have hd:Wc l i=⟨i,(Ac l (4+i) 1000).tmod 3,IntKind.i64.wrap (36000+(Ac l (4+i) 1000).tmod 50),(Ac l (4+i) 1000).tmod 20⟩:=rfl;have hb:LE l i=if (Ac l (4+i) 1000).tmod 5=0 then some (i:Int) else none:=rfl;generalize Ac l (4+i) 1000=k at*;rw[if_pos (by omega),AD];simp only[AA,ABm];simp[v1,AL];refine⟨_,_,p1 _,?_⟩;simp[ABl,AN,r1];by_cases h5:k.tmod 5=0
  ·simp[bY,h5,AA,bj,r2,bZ,hw,hlt,AU0,hd,hb,Dat.V]
  ·simp[bY,h5,AD,bZ,hw,hlt,AU0,hd,hb,Dat.V]
 ·have:i=cl.length:=by omega
  subst this;rw[if_neg (by omega),AM];simp
theorem AKH (l:List Int) (a b c:Int) (cl:List Clm) (ds:List Dat) (bad:List Int) (R0:Row):
  awp Tryz.prog GLx (.loop UG) (λe s=>e= .exit 2∧AH s.e 2= .ref 0 0∧AH s.e 3= .ref 1 0∧s.h=[R0,mkR a b c cl ds bad ((List.range (Ac l 8 3).toNat).map (XR l)) ((List.range (Ac l 8 3).toNat).filterMap (MI l))])
   ⟨[(0,.v (AL .i64 l)),(2,.ref 0 0),(3,.ref 1 0),(6,.v (.int .i64 (Ac l 8 3))),(7,.v (.int .i64 0))],[R0,mkR a b c cl ds bad [] []]⟩:=by
 have hN:=Dq l 8 3 (by decide);have hO:∀i,XR l i=⟨IntKind.i64.wrap (1+2*i+(Ac l (9+i) 1000).tmod 2),1,Ac l 8 3⟩:=λ_=>rfl;generalize Ac l 8 3=N at*;refine Ad N.toNat (λi=>⟨[(0,.v (AL .i64 l)),(2,.ref 0 0),(3,.ref 1 0),(6,.v (.int .i64 N)),(7,.v (.int .i64 i))],[R0,mkR a b c cl ds bad ((List.range i).map (XR l)) ((List.range i).filterMap (MI l))]⟩) (by simp) ?_;intro i hi;simp only[UG,AB,AA,AG,AE,bh];simp[mkR];by_cases hlt:i <N.toNat
 ·have hlt':(i:Int) <N:=by omega
  have v1:IntKind.i64.wrap (9+(i:Int))=9+i:=AJ;have v2:IntKind.i64.wrap (2*(i:Int))=2*i:=AJ;have v3:IntKind.i64.wrap (1+2*(i:Int))=1+2*i:=AJ;have hw:IntKind.i64.wrap ((i:Int)+1)=i+1:=AJ;have p1:=(p47 l (9+i) 1000 (by decide)).fsp;have hlb:((List.range i).filterMap (MI l)).length≤i:=by have:=AVu (MI l) (List.range i);simpa using this
  have r1:Ae (i+1) 24=true:=by simp[Ae];omega
  have r2:Ae (((List.range i).filterMap (MI l)).length+1) 32=true:=by simp[Ae];omega
  simp[AL]at p1;have hd:=hO i;have hb:MI l i=if (Ac l (9+i) 1000).tmod 3=0 then some ⟨IntKind.i64.wrap (1+(Ac l (9+i) 1000).tmod 5),IntKind.i64.wrap (2+(Ac l (9+i) 1000).tmod 7),(Ac l (9+i) 1000),IntKind.i64.wrap ((Ac l (9+i) 1000)+IntKind.i64.wrap ((Ac l (9+i) 1000).tdiv 7))⟩ else none:=rfl;generalize Ac l (9+i) 1000=k at*;rw[if_pos (by omega),AD];simp only[AA,bg];simp[v1,AL];refine⟨_,_,p1 _,?_⟩;simp[bf,AN,r1,v2,v3];by_cases h5:k.tmod 3=0
  ·simp[QR,h5,AA,be,AN,r2,QS,hw,hlt',AU0,hd,hb,Own.V,Lic.V]
  ·simp[QR,h5,AD,QS,hw,hlt',AU0,hd,hb,Own.V]
 ·have:i=N.toNat:=by omega
  subst this;rw[if_neg (by omega),AM];simp
def AF6:AC:=(.seq (.seq (.reg ba [0,2,3,4]) (.block 0 (.loop UH))) (.seq (.reg QU [0,2,3,6]) (.seq (.seq (.reg QT [0,2,3,6,7]) (.block 2 (.loop UG))) (.seq (.reg QQ [2]) .ret))))
theorem AF7:c48=(.seq (.reg bq [0,2]) (.seq (.reg bp [0,2,3]) (.seq (.seq (.reg bd [0,2,3,18]) (.cond (.t 18 false) (.reg bc [0,2,3]) .skip)) AF6))):=rfl
theorem p48 (l:List Int):PX 48 [AL .i64 l] [(Dd l).V]:=by
 refine AK k48 rfl ?_;have p1:=(p47 l 0 40 (by decide)).fsp;have p2:=(p47 l 1 5 (by decide)).fsp;have p3:=(AQ7 l).fsp;have p4:=(p47 l 2 3 (by decide)).fsp;have p5:=(p47 l 3 5 (by decide)).fsp;have p6:=(p47 l 8 3 (by decide)).fsp;have hl0:=λc R0=>AKI l (Ac l 0 40) (Ac l 1 5) c (Bk l) (JR l) R0;have hl1:=λc ds bad R0=>AKH l (Ac l 0 40) (Ac l 1 5) c (Bk l) ds bad R0;simp[AL,mkR]at p1 p2 p3 p4 p5 p6 hl0 hl1;rw[AF7];simp only[AB,AA,AG,AE,bq,bp,AY];simp[AL];refine⟨_,_,p1 _,?_⟩;simp;refine⟨_,_,p2 _,?_⟩;simp;refine⟨_,_,p3 _,?_⟩;simp[AN,bd];refine⟨_,_,p4 _,?_⟩;simp;have fin:∀(c:Int) (e:Env),AH e 0= .v (AL .i64 l)→AH e 2= .ref 0 0→AH e 3= .ref 1 0→c=(if Ac l 2 3=0 then Ac l 3 5 else 0)→
   awp Tryz.prog GLx AF6 (λe s=>(match e with| .exit _=>False|_=>True)∧CB s AF8=some [(Dd l).V])
    ⟨e,[.cells [.v (.int .i64 0),.v (.int .i64 0),.v (.int .i64 0),.own 130 5 [],.own 131 4 [],.own 3 1 [],.own 135 3 [],.own 137 4 []],
     .cells [.v (.int .i64 (Ac l 0 40)),.v (.int .i64 (Ac l 1 5)),.v (.int .i64 c),.v (.list ((Bk l).map Clm.V)),.own 131 4 [],.own 3 1 [],.own 135 3 [],.own 137 4 []]]⟩:=by
  intro c e f0 f2 f3 hc;unfold AF6;simp only[AB,AA,AG,ba];simp[f0,f2,f3,AL];refine Ag _ ?_ (hl0 c _);rintro e ⟨se,sh⟩ ⟨rfl,g0,g2,g3,hh⟩;simp only at g0 g2 g3 hh;subst hh;simp[QU,g0,g2,g3];refine⟨_,_,p6 _,?_⟩;simp[QT];have q:=hl1 c ((List.range (Bk l).length).map (Wc l)) ((List.range (Bk l).length).filterMap (LE l)) (.cells [.v (.int .i64 0),.v (.int .i64 0),.v (.int .i64 0),.own 130 5 [],.own 131 4 [],.own 3 1 [],.own 135 3 [],.own 137 4 []]);simp at q;refine Ag _ ?_ q;rintro e ⟨se,sh⟩ ⟨rfl,g2,g3,hh⟩;simp only at g2 g3 hh;subst hh;simp[QQ,g2,g3,AF,AF8,AN,Dd,Rgt.V,Rgt.cs,AL,hc]
 by_cases h0:Ac l 2 3=0
 ·simp[h0,AA,bc];refine⟨_,_,p5 _,?_⟩;simp[AN];exact fin _ _ rfl rfl rfl (by simp[h0])
 ·simp[h0,AD];exact fin _ _ rfl rfl rfl (by simp[h0])
theorem GW (n:Int):i64 (IntKind.i64.wrap n):=by
 have h1:=Int.emod_nonneg n (b:=18446744073709551616) (by decide);have h2:=Int.emod_lt_of_pos n (b:=18446744073709551616) (by decide);unfold IntKind.wrap i64;simp only[IntKind.bits,IntKind.signed];have e1:((2:Int)^64)=18446744073709551616:=by decide
 have e2:((2:Int)^(64-1))=9223372036854775808:=by decide
 simp only[e1,e2,AUh,decide_eq_true_eq,ge_iff_le];split<;>omega
theorem W2 (b n:Int) (hn:0 <n): -n <b.tmod n∧b.tmod n <n:=by
 have h1:=AVt b hn;have h2:=AVt (-b) hn;rw[Int.neg_tmod]at h2;omega
theorem GY (b n:Int) (hn:0 <n) (h:n≤2^40):i64 (b.tmod n):=by have:=W2 b n hn;unfold i64;omega
theorem XO (l:List Int) (i n:Int) (hn:0 <n) (h:n≤2^40):i64 (Ac l i n):=by have:=Dq l i n hn;unfold i64;omega
structure F.tiny (m:Nat) (f:F):Prop where
 one:∀g∈f.nodes,g.ok1∧g.ins.length≤1
 len:f.nodes.length≤m
 size:f.size≤m
theorem F.tiny.ok {m:Nat} {f:F} (h:f.tiny m) (hm:m≤2^20):f.ok:=⟨λg hg=>(h.one g hg).1,by have:=h.size;omega⟩
theorem Jq {α:Type} {f:α→List Int} (c:Nat):∀l:List α,(∀x∈l,(f x).length≤c)→(l.flatMap f).length≤c*l.length
 |[],_=>by simp
 |x::l,h=>by
  have h1:=h x (by simp);have h2:=Jq c l λy hy=>h y (by simp[hy]);simp only[AUN,AT5,AUO,AVv];omega
theorem FY (l:List Int):(BJ l).length≤10+10*l.length:=by
 have h1:=DP l.length;have h2:=Ce l;rw[BJ,AT5];omega
theorem F.tiny.enc {m:Nat} {f:F} (h:f.tiny m):(CC f).length≤200*m:=by
 have key:=Jq (f:=Cl) 200 f.nodes λg hg=>by
  have h1:=(h.one g hg).2;have h2:=Jq (f:=Cx) 100 g.ins λx _=>by
   have:=FY [x.ln,x.ld,x.hn,x.hd,b01 x.lo,b01 x.ho,b01 x.li,b01 x.hi];simp only[AUO,AVA]at this;exact AUk this (by decide)
  have:=Am g.op;have:=Am g.n;have:=Am g.ins.length;have:=Am g.kids.length;simp only[Cl,AT5];omega
 have:=h.len;have:200*f.nodes.length≤200*m:=AWB _ this;exact AUk key this
theorem Eg (k:Int):(CY k).tiny 1:=by
 refine⟨?_,by simp[CY,F.nodes_eq],by simp[CY,F.size_eq]⟩;simp only[CY,F.nodes_eq,AVw,AUC,forall_eq,F.ok1,F.op,F.n,F.ins];exact⟨⟨by unfold i64;omega,GY _ _ (by decide) (by decide),by simp,by simp⟩,by simp⟩
theorem JG (k:Int):(Cp k).tiny 1:=by
 refine⟨?_,by simp[Cp,F.nodes_eq],by simp[Cp,F.size_eq]⟩;simp only[Cp,F.nodes_eq,AVw,AUC,forall_eq,F.ok1,F.op,F.n,F.ins];exact⟨⟨by unfold i64;omega,GY _ _ (by decide) (by decide),⟨GY _ _ (by decide) (by decide),by simp[i64],GW _,by simp[i64]⟩,by simp⟩,by simp⟩
theorem GZ {op:Int} {kids:List F} {m:Nat} (ho:i64 op) (hk:∀k∈kids,k.tiny m):(F.mk op 0 [] kids).tiny (1+m*kids.length):=by
 have s:∀l:List F,(∀k∈l,k.tiny m)→(l.flatMap F.nodes).length≤m*l.length∧(l.map F.size).sum≤m*l.length:=by
  intro l;induction l with
  |nil=>simp
  |cons x l ih=>
   intro h;have h1:=h x (by simp);have h2:=ih λk hk=>h k (by simp[hk]);have:=h1.len;have:=h1.size;simp only[AUN,AT5,AUO,AUD,AVE,AVv];omega
 have s1:=s kids hk;refine⟨?_,by rw[F.nodes_eq,AUO];omega,by rw[F.size_eq];omega⟩;intro g hg;rw[F.nodes_eq]at hg;rcases AT7.1 hg with rfl|hg
 ·exact⟨⟨ho,by simp[F.n,i64],by simp[F.ins],by simp[F.ins]⟩,by simp[F.ins]⟩
 ·obtain⟨k,hk1,hk2⟩:=AUp.1 hg;exact(hk k hk1).one g hk2
theorem F.tiny.mono {m n:Nat} {f:F} (h:f.tiny m) (hn:m≤n):f.tiny n:=⟨h.one,AUk h.len hn,AUk h.size hn⟩
theorem JF (n:Int):(Cw n).tiny 3:=by
 unfold Cw;generalize Aq n 1048576=k;have o:∀n:Int,0≤n→n≤6→i64 n:=λn h1 h2=>by unfold i64;omega
 simp only
 repeat' split
 ·exact(Eg k).mono (by decide)
 ·exact(JG k).mono (by decide)
 ·exact(GZ (m:=1) (o _ (by decide) (by decide)) (by simp[Eg,JG])).mono (by simp)
 ·exact(GZ (m:=1) (o _ (by decide) (by decide)) (by simp[Eg])).mono (by simp)
 ·exact(GZ (m:=1) (o _ (by decide) (by decide)) (by simp[Eg])).mono (by simp)
structure Clm.tiny (c:Clm):Prop where
 refs:∀n∈c.refs,i64 n
 lr:c.refs.length≤2
 body:c.body.tiny 7
theorem Clm.tiny.ok {c:Clm} (h:c.tiny):c.ok:=⟨h.refs,by have:=h.lr;omega,h.body.ok (by decide)⟩
theorem GN (l:List Int) (i:Nat) (hi:i≤3):(Fc l i).tiny:=by
 unfold Fc;generalize Ac l (2*i+1) 1000=k;generalize Ac l (2*i+2) 1048576=m;refine⟨?_,?_,?_⟩
 ·simp only;split
  ·simp[i64]
  ·split
   ·rename_i h;simp only[AUC,forall_eq];exact GY _ _ (by omega) (by omega)
   ·simp
 ·simp only;split
  ·simp
  ·split<;>simp
 ·simp only;split
  ·exact(GZ (m:=3) (by unfold i64;omega) (by simp[JF])).mono (by simp)
  ·exact(JF m).mono (by decide)
structure Rgt.tiny (m:Nat) (r:Rgt):Prop where
 file:i64 r.file
 state:i64 r.state
 force:i64 r.force
 claims:∀c∈r.claims,c.tiny
 dates:∀d∈r.dates,d.ok
 bad:∀n∈r.bad,i64 n
 owners:∀o∈r.owners,o.ok
 lics:∀h∈r.lics,h.ok
 lc:r.claims.length≤m
 ld:r.dates.length≤m
 lb:r.bad.length≤m
 lo:r.owners.length≤m
 ll:r.lics.length≤m
theorem Wa {c:Clm} (h:c.tiny):(Bd c).length≤1500:=by
 have h1:=FY c.refs;have h2:=h.lr;have h3:=h.body.enc;have h4:=DP (CC c.body).length;simp only[Bd,BN,AT5];omega
theorem Fa {l:List Clm} (h:∀c∈l,c.tiny):(BP l).length≤10+1500*l.length:=by
 have h1:=Jq (f:=Bd) 1500 l λc hc=>Wa (h c hc);have h2:=Am l.length;simp only[BP,AT5];omega
theorem Rgt.tiny.ok {m:Nat} {r:Rgt} (h:r.tiny m) (hm:m≤2^20):r.ok:=by
 have:=h.lc;have:=h.ld;have:=h.lb;have:=h.lo;have:=h.ll;have:=Fa h.claims;exact⟨h.file,h.state,h.force,λc hc=>(h.claims c hc).ok,h.dates,h.bad,h.owners,h.lics,by omega,by omega,by omega,by omega,by omega,by omega⟩
theorem PY (l:List Int):(Dd l).tiny 3:=by
 have hc:=JR l;have hp:=Dq l 8 3 (by decide);have o:∀i n:Int,0 <n→n≤2^40→i64 (Ac l i n):=λi n=>XO l i n;refine⟨o 0 40 (by decide) (by decide),o 1 5 (by decide) (by decide),?_,?_,?_,?_,?_,?_,hc,?_,?_,?_,?_⟩
 ·simp only[Dd];split
  ·exact o 3 5 (by decide) (by decide)
  ·simp[i64]
 ·intro c h;simp only[Dd,Bk,AT9,AUR]at h;obtain⟨i,hi,rfl⟩:=h;have:=Ho l;exact GN l i (by omega)
 ·intro d h;simp only[Dd,AT9,AUR]at h;obtain⟨i,hi,rfl⟩:=h;exact⟨by simp only[Wc];unfold i64;omega,GY _ _ (by decide) (by decide),GW _,GY _ _ (by decide) (by decide)⟩
 ·intro n h;simp only[Dd,List.mem_filterMap,AUR,LE]at h;obtain⟨i,hi,h⟩:=h;split at h
  ·simp only[AT0]at h;subst h;unfold i64;omega
  ·simp at h
 ·intro w h;simp only[Dd,AT9,AUR]at h;obtain⟨i,hi,rfl⟩:=h;exact⟨GW _,by simp[XR,i64],o 8 3 (by decide) (by decide)⟩
 ·intro w h;simp only[Dd,List.mem_filterMap,AUR,MI]at h;obtain⟨i,hi,h⟩:=h;split at h
  ·simp only[AT0]at h;subst h;exact⟨GW _,GW _,o (9+i) 1000 (by decide) (by decide),GW _⟩
  ·simp at h
 ·simp only[Dd,AUM,AWC];exact hc
 ·have:=AVu (LE l) (List.range (Bk l).length);simp only[Dd];rw[AWC]at this;omega
 ·simp only[Dd,AUM,AWC];omega
 ·have:=AVu (MI l) (List.range (Ac l 8 3).toNat);simp only[Dd];rw[AWC]at this;omega
theorem Ja (n lo hi:Int):PX 125 [.int .i64 n,.int .i64 lo,.int .i64 hi] [.bool (inI n lo hi)]:=by
 refine AK ATU rfl ?_;by_cases h1:lo≤n<;>by_cases h2:n≤hi<;>simp[AOy,awp,tC,tB,ADp,AY,h1,h2,inI]
theorem JZ (n lo hi:Int):PX 216 [.int .i64 n,.int .i64 lo,.int .i64 hi] [.bool (inI n lo hi)]:=by
 refine AK AK3 rfl ?_;by_cases h1:lo≤n<;>by_cases h2:n≤hi<;>simp[AHU,awp,me,md,mf,AY,h1,h2,inI]
theorem AQQ (a b:Dat):PX 220 [a.V,b.V] [.bool (Ft a b)]:=by
 refine AK ASs rfl ?_;unfold Ft;by_cases h1:a.cl <b.cl
 ·simp[vw,awp,Mw,Mv,Ux,AY,Dat.V,h1]
 ·by_cases h2:a.cl=b.cl
  ·simp[vw,awp,Mw,Mv,Ux,AY,Dat.V,h2]
  ·simp[vw,awp,Mw,Mv,Ux,AY,Dat.V,h1,h2]
theorem AQM (a b:Int):PX 224 [.int .i64 a,.int .i64 b] [.bool (decide (a <b))]:=by
 refine AK ASq rfl ?_;simp[ANr,awp,mA,l0,AC7,AY]
theorem AQI (a b:Own):PX 229 [a.V,b.V] [.bool (decide (a.party <b.party))]:=by
 refine AK ASn rfl ?_;simp[ANo,awp,lL,lK,AC5,AY,Own.V]
theorem AQG (x:Lic):PX 231 [x.V] [.bool (Fp x)]:=by
 refine AK ASm rfl ?_;have p1:=(JZ x.fr 1 4095).fsp;have p2:=(JZ x.to 1 4095).fsp;have p3:=(JZ x.fst 0 x.lst).fsp;unfold Fp;generalize inI x.fr 1 4095=A at*;generalize inI x.to 1 4095=B at*;generalize inI x.fst 0 x.lst=C at*;simp at p1 p2 p3;simp only[ANm,AB,AA,lF,lD,AY];simp[Lic.V];refine⟨_,_,p1 _,?_⟩;cases A with
 |false=>simp[AF,O9]
 |true=>
  simp;refine⟨_,_,p2 _,?_⟩;cases B with
  |false=>simp[AF,O9]
  |true=>
   simp;refine⟨_,_,p3 _,?_⟩;cases C with
   |false=>simp[AF,O9]
   |true=>simp[AF,O9]
theorem AJ2:okR 1 1=true:=by decide
theorem AQK (x:Own) (hx:x.ok):PX 226 [x.V] [.bool (EO x)]:=by
 refine AK ASp rfl ?_;have p1:=(JZ x.party 1 4095).fsp;have p2:=(AJk x.num x.den 1 1 hx.2.1 hx.2.2 (by unfold i64;omega) (by unfold i64;omega)).fsp;rw[AJ2,AVh]at p2;unfold EO;generalize inI x.party 1 4095=A at*;simp only[ANq,AB,AA,lk,lj,AY];simp[Own.V];cases hR:okR x.num x.den with
 |false=>
  rw[hR]at p2;simp[A5]at p1 p2;refine⟨_,_,p2 _,?_⟩;simp[RU];refine⟨_,_,p1 _,?_⟩;cases A<;>simp[AF,PA]
 |true=>
  rw[hR]at p2;simp[A5]at p1 p2;refine⟨_,_,p2 _,?_⟩;simp[RU];refine⟨_,_,p1 _,?_⟩;have hc:(P2 x.num x.den 1 1≤0)↔x.num≤x.den:=by unfold P2;simp;split<;>(try split)<;>omega
  cases A with
  |false=>simp[AF,PA]
  |true=>
   by_cases h1:x.num≤x.den
   ·have h2:=hc.2 h1;simp[h2,h1,AF,PA]
   ·have h2:¬P2 x.num x.den 1 1≤0:=λh=>h1 (hc.1 h);simp[h2,h1,AF,PA]
def Low (h:List Row):Prop:=∀row∈h,Row.low h.length row=true
theorem AQS (x:Dat) (n:Int) (h:List Row) (r:Nat) (hr:h[r]?=some (.cells [.v (.int .i64 n)])) (hn:0≤n∧n≤2^40) (hl:Low h):
  FX 218 [.v x.V,.ref r 0] h [.v (.bool (inI x.cl 0 (n-1)&&inI x.ix 0 63&&inI x.day 0 131072&&inI x.file 0 4095))] h:=by
 refine Ai ASt rfl (AT6 _) hl (by simp[D.lt]) ?_;have w1:IntKind.i64.wrap (n-1)=n-1:=AJ;have p1:=(JZ x.cl 0 (n-1)).fsp;have p2:=(JZ x.ix 0 63).fsp;have p3:=(JZ x.day 0 131072).fsp;have p4:=(JZ x.file 0 4095).fsp;have hr':=AO [.cells [.v (.int .i64 x.cl),.v (.int .i64 x.ix),.v (.int .i64 x.day),.v (.int .i64 x.file)]] hr;generalize inI x.cl 0 (n-1)=A at*;generalize inI x.ix 0 63=B at*;generalize inI x.day 0 131072=C at*;generalize inI x.file 0 4095=E at*;simp at p1 p2 p3 p4;simp only[ANu,AB,AA,mZ,mY,AS];simp[Dat.V,hr',w1];refine⟨_,_,p1 _,?_⟩;cases A with
 |false=>simp[AF,PB]
 |true=>
  simp;refine⟨_,_,p2 _,?_⟩;cases B with
  |false=>simp[AF,PB]
  |true=>
   simp;refine⟨_,_,p3 _,?_⟩;cases C with
   |false=>simp[AF,PB]
   |true=>
    simp;refine⟨_,_,p4 _,?_⟩;cases E<;>simp[AF,PB]
theorem AQO (x n:Int) (h:List Row) (r:Nat) (hr:h[r]?=some (.cells [.v (.int .i64 n)])) (hn:0≤n∧n≤2^40):
  FX 222 [.v (.int .i64 x),.ref r 0] h [.v (.bool (inI x 0 (n-1)))] h:=by
 refine AV ASr rfl ?_;have w1:IntKind.i64.wrap (n-1)=n-1:=AJ;have p1:=(JZ x 0 (n-1)).fsp;simp at p1;simp only[ANs,AB,AA,mL,mK,AS];simp[hr,w1];refine⟨_,_,p1 _,?_⟩;simp[AF,AC8]
theorem Low.app {h:List Row} (hl:Low h) {row:Row} (hr:Row.low (h.length+1) row=true):Low (h++[row]):=by
 intro x hx;rw[AT5];rcases AUK.1 hx with hx|hx
 ·have h1:=hl _ hx;cases x with
  |cells ds=>
   refine EB λd hd=>?_;obtain⟨i,hi⟩:=AWZ hd;exact Dz (by simp) d (Eh h1 hi)
  |_=>exact h1
 ·simp at hx;subst hx;exact hr
theorem IdxR.map {P:Program} {GL:AX} {fid:Nat} {caps:List D} {α:Type} {f:α→V} {p:α→Bool} {l:List α} {h:List Row} (hp:∀x∈l,FSp P GL fid (.v (f x)::caps) h [.v (.bool (p x))] h):
  IdxR P GL fid caps (l.map f) h (l.findIdx? p) h:=by
 induction l with
 |nil=>exact⟨rfl,rfl⟩
 |cons x xs ih=>
  refine⟨p x,h,hp x (by simp),?_⟩;cases hx:p x with
  |true=>simp[AUy,hx]
  |false=>
   simp only[AUF,if_false];exact⟨_,ih λy hy=>hp y (by simp[hy]),by simp[AUy,hx]⟩
theorem En {α:Type} (p:α→Bool) (l:List α):(l.findIdx? λx=> !p x).isSome= !l.all p:=by
 rw[CU,List.not_all_eq_any_not]
theorem EM {α:Type} (f:α→α→Bool):∀l:List α,CA f l=true↔∀(i:Nat) x y,l[i]?=some x→l[i+1]?=some y→f x y=true
 |[]=>by simp[CA]
 |[x]=>by simp[CA]
 |x::y::l=>by
  simp only[CA,AT1,EM f (y::l)]
  constructor
  ·rintro⟨h1,h2⟩ i a b ha hb;cases i with
   |zero=>simp at ha hb;subst ha;subst hb;exact h1
   |succ i=>exact h2 i a b (by simpa using ha) (by simpa using hb)
  ·exact λh=>⟨h 0 x y rfl rfl,λi a b ha hb=>h (i+1) a b (by simpa using ha) (by simpa using hb)⟩
theorem APl (x:Dat) (b:Bool) (fd:D) (fid:Nat) (caps:List D) (hf:FV fd fid caps) (h:List Row) (q:Nat) (hq:h[q]?=some (.cells [fd])) (hl:Low h)
  (hp:∀H,Low H→(∀(i:Nat) y,h[i]?=some y→H[i]?=some y)→FX fid (.v x.V::caps) H [.v (.bool b)] H):FX 288 [.v x.V,.ref q 0] h [.v (.bool (!b))] h:=by
 refine Ai ASI rfl (AT6 _) hl (by simp[D.lt]) ?_;have hq':=AO [.cells [.v (.int .i64 x.cl),.v (.int .i64 x.ix),.v (.int .i64 x.day),.v (.int .i64 x.file)]] hq;have hp':=hp _ (hl.app (row:= .cells [.v (.int .i64 x.cl),.v (.int .i64 x.ix),.v (.int .i64 x.day),.v (.int .i64 x.file)]) rfl) λ_ _ h=>AO _ h;have hcp:=hf.cp;have hfn:=hf.fn;have hny:=hf.ny;have hnt:=hf.nt;simp only[D.copy]at hcp
 try simp[Dat.V,]at hp'
 simp only[ANG,AB,AA,fu,AS];simp[Dat.V,ft,hq',hcp,-Db,-D.norm];rw[hfn];simp;refine⟨_,_,hp',?_⟩;simp[AF,ACT]
theorem AQT (l:List Dat) (P:Dat→Bool) (fd:D) (fid:Nat) (caps:List D) (hf:FV fd fid caps) (hfc:fd.cells?=some [fd]) (hfr:fd.toRow=fd) (h:List Row) (hl:Low h) (hlow:D.lt h.length fd=true) (hn:l.length <2^40)
  (hp:∀x∈l,∀H,Low H→(∀(i:Nat) y,h[i]?=some y→H[i]?=some y)→FX fid (.v x.V::caps) H [.v (.bool (P x))] H):
  FX 217 [.v (.list (l.map Dat.V)),fd] h [.v (.bool (l.all P))] h:=by
 refine Ai AK2 rfl (AT6 _) hl (by simp[D.lt]) ?_;have hcp:=hf.cp;simp only[D.copy]at hcp;have hl2:Low (h++[.cells [fd]]):=hl.app (by simp[Row.low,D.lts,Dz (Nat.le_succ _) _ hlow]);have hidx:IdxR Tryz.prog GLx 288 [.ref h.length 0] (l.map Dat.V) (h++[.cells [fd]]) (l.findIdx? λx=> !P x) (h++[.cells [fd]]):=
  IdxR.map λx hx=>APl x (P x) fd fid caps hf _ h.length (FQ _ _) hl2 λH h1 h2=>hp x hx H h1 λi y hy=>h2 i y (AO _ hy)
 have hcf:=AJa (.func 288 [.ref h.length 0]) 288 [.ref h.length 0] (FV.r 288 h.length 0 []) (l.map Dat.V) (by simpa using hn) (by
  intro x hx;obtain⟨y,_,rfl⟩:=AT9.1 hx;exact⟨_,rfl,rfl⟩) hidx
 rw[En]at hcf;simp only[AHT,AB,AA,mb,AS];simp[hcp,hfc,hfr,-D.cells?,-D.toRow];simp only[ma];simp
 try simp at hcf
 refine⟨_,_,hcf,?_⟩;simp[AF,mc]
theorem APk (x:Int) (b:Bool) (fd:D) (fid:Nat) (caps:List D) (hf:FV fd fid caps) (h:List Row) (q:Nat) (hq:h[q]?=some (.cells [fd])) (hl:Low h)
  (hp:∀H,Low H→(∀(i:Nat) y,h[i]?=some y→H[i]?=some y)→FX fid (.v (.int .i64 x)::caps) H [.v (.bool b)] H):FX 289 [.v (.int .i64 x),.ref q 0] h [.v (.bool (!b))] h:=by
 refine AV ASH rfl ?_;have hq':=hq;have hp':=hp h hl λ_ _ h=>h;have hcp:=hf.cp;have hfn:=hf.fn;have hny:=hf.ny;have hnt:=hf.nt;simp only[D.copy]at hcp
 try simp[]at hp'
 simp only[ANF,AB,AA,fq,AS];simp[fj,hq',hcp,-Db,-D.norm];rw[hfn];simp;refine⟨_,_,hp',?_⟩;simp[AF,ACS]
theorem AQP (l:List Int) (P:Int→Bool) (fd:D) (fid:Nat) (caps:List D) (hf:FV fd fid caps) (hfc:fd.cells?=some [fd]) (hfr:fd.toRow=fd) (h:List Row) (hl:Low h) (hlow:D.lt h.length fd=true) (hn:l.length <2^40)
  (hp:∀x∈l,∀H,Low H→(∀(i:Nat) y,h[i]?=some y→H[i]?=some y)→FX fid (.v (.int .i64 x)::caps) H [.v (.bool (P x))] H):
  FX 221 [.v (.list (l.map (V.int .i64))),fd] h [.v (.bool (l.all P))] h:=by
 refine Ai AK0 rfl (AT6 _) hl (by simp[D.lt]) ?_;have hcp:=hf.cp;simp only[D.copy]at hcp;have hl2:Low (h++[.cells [fd]]):=hl.app (by simp[Row.low,D.lts,Dz (Nat.le_succ _) _ hlow]);have hidx:IdxR Tryz.prog GLx 289 [.ref h.length 0] (l.map (V.int .i64)) (h++[.cells [fd]]) (l.findIdx? λx=> !P x) (h++[.cells [fd]]):=
  IdxR.map λx hx=>APk x (P x) fd fid caps hf _ h.length (FQ _ _) hl2 λH h1 h2=>hp x hx H h1 λi y hy=>h2 i y (AO _ hy)
 have hcf:=un (.func 289 [.ref h.length 0]) 289 [.ref h.length 0] (FV.r 289 h.length 0 []) (l.map (V.int .i64)) (by simpa using hn) (by
  intro x hx;obtain⟨y,_,rfl⟩:=AT9.1 hx;exact⟨_,rfl⟩) hidx
 rw[En]at hcf;simp only[AHR,AB,AA,mN,AS];simp[hcp,hfc,hfr,-D.cells?,-D.toRow];simp only[mM];simp
 try simp at hcf
 refine⟨_,_,hcf,?_⟩;simp[AF,mO]
theorem APj (x:Own) (b:Bool) (fd:D) (fid:Nat) (caps:List D) (hf:FV fd fid caps) (h:List Row) (q:Nat) (hq:h[q]?=some (.cells [fd])) (hl:Low h)
  (hp:∀H,Low H→(∀(i:Nat) y,h[i]?=some y→H[i]?=some y)→FX fid (.v x.V::caps) H [.v (.bool b)] H):FX 290 [.v x.V,.ref q 0] h [.v (.bool (!b))] h:=by
 refine Ai ASG rfl (AT6 _) hl (by simp[D.lt]) ?_;have hq':=AO [.cells [.v (.int .i64 x.party),.v (.int .i64 x.num),.v (.int .i64 x.den)]] hq;have hp':=hp _ (hl.app (row:= .cells [.v (.int .i64 x.party),.v (.int .i64 x.num),.v (.int .i64 x.den)]) rfl) λ_ _ h=>AO _ h;have hcp:=hf.cp;have hfn:=hf.fn;have hny:=hf.ny;have hnt:=hf.nt;simp only[D.copy]at hcp
 try simp[Own.V,]at hp'
 simp only[ANE,AB,AA,fg,AS];simp[Own.V,ff,hq',hcp,-Db,-D.norm];rw[hfn];simp;refine⟨_,_,hp',?_⟩;simp[AF,ACR]
theorem AQL (l:List Own) (P:Own→Bool) (fd:D) (fid:Nat) (caps:List D) (hf:FV fd fid caps) (hfc:fd.cells?=some [fd]) (hfr:fd.toRow=fd) (h:List Row) (hl:Low h) (hlow:D.lt h.length fd=true) (hn:l.length <2^40)
  (hp:∀x∈l,∀H,Low H→(∀(i:Nat) y,h[i]?=some y→H[i]?=some y)→FX fid (.v x.V::caps) H [.v (.bool (P x))] H):
  FX 225 [.v (.list (l.map Own.V)),fd] h [.v (.bool (l.all P))] h:=by
 refine Ai AKy rfl (AT6 _) hl (by simp[D.lt]) ?_;have hcp:=hf.cp;simp only[D.copy]at hcp;have hl2:Low (h++[.cells [fd]]):=hl.app (by simp[Row.low,D.lts,Dz (Nat.le_succ _) _ hlow]);have hidx:IdxR Tryz.prog GLx 290 [.ref h.length 0] (l.map Own.V) (h++[.cells [fd]]) (l.findIdx? λx=> !P x) (h++[.cells [fd]]):=
  IdxR.map λx hx=>APj x (P x) fd fid caps hf _ h.length (FQ _ _) hl2 λH h1 h2=>hp x hx H h1 λi y hy=>h2 i y (AO _ hy)
 have hcf:=AJo (.func 290 [.ref h.length 0]) 290 [.ref h.length 0] (FV.r 290 h.length 0 []) (l.map Own.V) (by simpa using hn) (by
  intro x hx;obtain⟨y,_,rfl⟩:=AT9.1 hx;exact⟨_,rfl,rfl⟩) hidx
 rw[En]at hcf;simp only[AHP,AB,AA,lq,AS];simp[hcp,hfc,hfr,-D.cells?,-D.toRow];simp only[lm];simp
 try simp at hcf
 refine⟨_,_,hcf,?_⟩;simp[AF,lu]
theorem APf (x:Lic) (b:Bool) (fd:D) (fid:Nat) (caps:List D) (hf:FV fd fid caps) (h:List Row) (q:Nat) (hq:h[q]?=some (.cells [fd])) (hl:Low h)
  (hp:∀H,Low H→(∀(i:Nat) y,h[i]?=some y→H[i]?=some y)→FX fid (.v x.V::caps) H [.v (.bool b)] H):FX 294 [.v x.V,.ref q 0] h [.v (.bool (!b))] h:=by
 refine Ai ASD rfl (AT6 _) hl (by simp[D.lt]) ?_;have hq':=AO [.cells [.v (.int .i64 x.fr),.v (.int .i64 x.to),.v (.int .i64 x.fst),.v (.int .i64 x.lst)]] hq;have hp':=hp _ (hl.app (row:= .cells [.v (.int .i64 x.fr),.v (.int .i64 x.to),.v (.int .i64 x.fst),.v (.int .i64 x.lst)]) rfl) λ_ _ h=>AO _ h;have hcp:=hf.cp;have hfn:=hf.fn;have hny:=hf.ny;have hnt:=hf.nt;simp only[D.copy]at hcp
 try simp[Lic.V,]at hp'
 simp only[ANB,AB,AA,fN,AS];simp[Lic.V,fM,hq',hcp,-Db,-D.norm];rw[hfn];simp;refine⟨_,_,hp',?_⟩;simp[AF,ACQ]
theorem AQH (l:List Lic) (P:Lic→Bool) (fd:D) (fid:Nat) (caps:List D) (hf:FV fd fid caps) (hfc:fd.cells?=some [fd]) (hfr:fd.toRow=fd) (h:List Row) (hl:Low h) (hlow:D.lt h.length fd=true) (hn:l.length <2^40)
  (hp:∀x∈l,∀H,Low H→(∀(i:Nat) y,h[i]?=some y→H[i]?=some y)→FX fid (.v x.V::caps) H [.v (.bool (P x))] H):
  FX 230 [.v (.list (l.map Lic.V)),fd] h [.v (.bool (l.all P))] h:=by
 refine Ai AKw rfl (AT6 _) hl (by simp[D.lt]) ?_;have hcp:=hf.cp;simp only[D.copy]at hcp;have hl2:Low (h++[.cells [fd]]):=hl.app (by simp[Row.low,D.lts,Dz (Nat.le_succ _) _ hlow]);have hidx:IdxR Tryz.prog GLx 294 [.ref h.length 0] (l.map Lic.V) (h++[.cells [fd]]) (l.findIdx? λx=> !P x) (h++[.cells [fd]]):=
  IdxR.map λx hx=>APf x (P x) fd fid caps hf _ h.length (FQ _ _) hl2 λH h1 h2=>hp x hx H h1 λi y hy=>h2 i y (AO _ hy)
 have hcf:=APg (.func 294 [.ref h.length 0]) 294 [.ref h.length 0] (FV.r 294 h.length 0 []) (l.map Lic.V) (by simpa using hn) (by
  intro x hx;obtain⟨y,_,rfl⟩:=AT9.1 hx;exact⟨_,rfl,rfl⟩) hidx
 rw[En]at hcf;simp only[AHN,AB,AA,lI,AS];simp[hcp,hfc,hfr,-D.cells?,-D.toRow];simp only[lG];simp
 try simp at hcf
 refine⟨_,_,hcf,?_⟩;simp[AF,lJ]
theorem AQR (l:List Dat) (hn:l.length≤2^40):PX 219 [.list (l.map Dat.V),.func 220 []] [.bool (CA Ft l)]:=by
 refine AK AK1 rfl ?_;obtain⟨R,hR⟩:∃R,CA Ft l=R:=⟨_,rfl⟩;rw[hR];have hri:=EM Ft l;have hmx:(if IntKind.i64.wrap ((l.length:Int)-1) <0 then 0 else IntKind.i64.wrap ((l.length:Int)-1))=((l.length-1:Nat):Int):=by
  rw[AJ];split<;>omega
 simp only[AHS,AB,AA,AG,mW,mV,AY];simp[hmx];refine BQ (l.length-1) (λk=>⟨[(0,.v (.list (l.map Dat.V))),(1,.v (.func 220 [])),(9,.v (.int .i64 (l.length-1:Nat))),(10,.v (.int .i64 k))],[]⟩) (λk=>∀j <k,∀x y,l[j]?=some x→l[j+1]?=some y→Ft x y=true) (by simp) (by simp) ?_;intro k hk hI;simp only[mX,AB,AA,AG,AE,mU];simp;by_cases hlt:k <l.length-1
 ·obtain⟨x,hx⟩:∃x,l[k]?=some x:=⟨_,AT2 (by omega)⟩;obtain⟨y,hy⟩:∃y,l[k+1]?=some y:=⟨_,AT2 (by omega)⟩;have hw:IntKind.i64.wrap ((k:Int)+1)=((k+1:Nat):Int):=AJ;have hge:(0:Int)≤((k+1:Nat):Int):=by omega
  have hlt':(k:Int) <((l.length-1:Nat):Int):=by omega
  have hp:=(AQQ x y).fsp;have hnat:(((k+1:Nat):Int)).toNat=k+1:=by omega
  generalize hb:Ft x y=b at*;rw[if_pos (by omega),AD];simp only[AA,AW,mT,mS];simp[Dat.V,hb]at hp;simp only[AU7,AVx]at hw hge hnat;simp[hx,hy,Dat.V,hw,hge,hnat];refine⟨_,_,(hp []),?_⟩;cases b with
  |false=>
   have hf:R=false:=by
    rw[←hR];cases h:CA Ft l with
    |false=>rfl
    |true=>exact absurd ((hri.1 h k x y hx hy).symm.trans hb) (by decide)
   simp[AB,AA,AF,mR,Uy,hf]
  |true=>
   simp[AD,AA,mQ,hw];refine⟨hlt,λj hj a c ha hc=>?_⟩;rcases AUS j k with h|h
   ·simpa using hI j h a c ha hc
   ·have:j=k:=by omega
    subst this;rw[hx]at ha;rw[hy]at hc;cases ha;cases hc;simpa using hb
 ·have hk2:k=l.length-1:=by omega
  have ht:R=true:=by
   rw[←hR];refine hri.2 λj a c ha hc=>hI j ?_ a c ha hc;have:=(AT4.1 hc).1;omega
  rw[if_neg (by omega),AM];simp[AA,AF,AB,mP,Uy,ht]
theorem AQN (l:List Int) (hn:l.length≤2^40):PX 223 [.list (l.map (V.int .i64)),.func 224 []] [.bool (CA (λa b=>decide (a <b)) l)]:=by
 refine AK AKz rfl ?_;obtain⟨R,hR⟩:∃R,CA (λa b=>decide (a <b)) l=R:=⟨_,rfl⟩;rw[hR];have hri:=EM (λa b=>decide (a <b)) l;have hmx:(if IntKind.i64.wrap ((l.length:Int)-1) <0 then 0 else IntKind.i64.wrap ((l.length:Int)-1))=((l.length-1:Nat):Int):=by
  rw[AJ];split<;>omega
 simp only[AHQ,AB,AA,AG,mI,mH,AY];simp[hmx];refine BQ (l.length-1) (λk=>⟨[(0,.v (.list (l.map (V.int .i64)))),(1,.v (.func 224 [])),(9,.v (.int .i64 (l.length-1:Nat))),(10,.v (.int .i64 k))],[]⟩) (λk=>∀j <k,∀x y,l[j]?=some x→l[j+1]?=some y→(λa b=>decide (a <b)) x y=true) (by simp) (by simp) ?_;intro k hk hI;simp only[mJ,AB,AA,AG,AE,mG];simp;by_cases hlt:k <l.length-1
 ·obtain⟨x,hx⟩:∃x,l[k]?=some x:=⟨_,AT2 (by omega)⟩;obtain⟨y,hy⟩:∃y,l[k+1]?=some y:=⟨_,AT2 (by omega)⟩;have hw:IntKind.i64.wrap ((k:Int)+1)=((k+1:Nat):Int):=AJ;have hge:(0:Int)≤((k+1:Nat):Int):=by omega
  have hlt':(k:Int) <((l.length-1:Nat):Int):=by omega
  have hp:=(AQM x y).fsp;have hnat:(((k+1:Nat):Int)).toNat=k+1:=by omega
  generalize hb:(λa b=>decide (a <b)) x y=b at*;rw[if_pos (by omega),AD];simp only[AA,AW,mF,mE];simp[hb]at hp;simp only[AU7,AVx]at hw hge hnat;simp[hx,hy,hw,hge,hnat];refine⟨_,_,(hp []),?_⟩;cases b with
  |false=>
   have hf:R=false:=by
    rw[←hR];cases h:CA (λa b=>decide (a <b)) l with
    |false=>rfl
    |true=>exact absurd ((hri.1 h k x y hx hy).symm.trans hb) (by decide)
   simp[AB,AA,AF,mD,Uw,hf]
  |true=>
   simp[AD,AA,mC,hw];refine⟨hlt,λj hj a c ha hc=>?_⟩;rcases AUS j k with h|h
   ·simpa using hI j h a c ha hc
   ·have:j=k:=by omega
    subst this;rw[hx]at ha;rw[hy]at hc;cases ha;cases hc;simpa using hb
 ·have hk2:k=l.length-1:=by omega
  have ht:R=true:=by
   rw[←hR];refine hri.2 λj a c ha hc=>hI j ?_ a c ha hc;have:=(AT4.1 hc).1;omega
  rw[if_neg (by omega),AM];simp[AA,AF,AB,mB,Uw,ht]
theorem AQJ (l:List Own) (hn:l.length≤2^40):PX 228 [.list (l.map Own.V),.func 229 []] [.bool (CA (λa b=>decide (a.party <b.party)) l)]:=by
 refine AK AKx rfl ?_;obtain⟨R,hR⟩:∃R,CA (λa b=>decide (a.party <b.party)) l=R:=⟨_,rfl⟩;rw[hR];have hri:=EM (λa b=>decide (a.party <b.party)) l;have hmx:(if IntKind.i64.wrap ((l.length:Int)-1) <0 then 0 else IntKind.i64.wrap ((l.length:Int)-1))=((l.length-1:Nat):Int):=by
  rw[AJ];split<;>omega
 simp only[AHO,AB,AA,AG,lT,lS,AY];simp[hmx];refine BQ (l.length-1) (λk=>⟨[(0,.v (.list (l.map Own.V))),(1,.v (.func 229 [])),(9,.v (.int .i64 (l.length-1:Nat))),(10,.v (.int .i64 k))],[]⟩) (λk=>∀j <k,∀x y,l[j]?=some x→l[j+1]?=some y→(λa b=>decide (a.party <b.party)) x y=true) (by simp) (by simp) ?_;intro k hk hI;simp only[lU,AB,AA,AG,AE,lR];simp;by_cases hlt:k <l.length-1
 ·obtain⟨x,hx⟩:∃x,l[k]?=some x:=⟨_,AT2 (by omega)⟩;obtain⟨y,hy⟩:∃y,l[k+1]?=some y:=⟨_,AT2 (by omega)⟩;have hw:IntKind.i64.wrap ((k:Int)+1)=((k+1:Nat):Int):=AJ;have hge:(0:Int)≤((k+1:Nat):Int):=by omega
  have hlt':(k:Int) <((l.length-1:Nat):Int):=by omega
  have hp:=(AQI x y).fsp;have hnat:(((k+1:Nat):Int)).toNat=k+1:=by omega
  generalize hb:(λa b=>decide (a.party <b.party)) x y=b at*;rw[if_pos (by omega),AD];simp only[AA,AW,lQ,lP];simp[Own.V,hb]at hp;simp only[AU7,AVx]at hw hge hnat;simp[hx,hy,Own.V,hw,hge,hnat];refine⟨_,_,(hp []),?_⟩;cases b with
  |false=>
   have hf:R=false:=by
    rw[←hR];cases h:CA (λa b=>decide (a.party <b.party)) l with
    |false=>rfl
    |true=>exact absurd ((hri.1 h k x y hx hy).symm.trans hb) (by decide)
   simp[AB,AA,AF,lO,Uv,hf]
  |true=>
   simp[AD,AA,lN,hw];refine⟨hlt,λj hj a c ha hc=>?_⟩;rcases AUS j k with h|h
   ·simpa using hI j h a c ha hc
   ·have:j=k:=by omega
    subst this;rw[hx]at ha;rw[hy]at hc;cases ha;cases hc;simpa using hb
 ·have hk2:k=l.length-1:=by omega
  have ht:R=true:=by
   rw[←hR];refine hri.2 λj a c ha hc=>hI j ?_ a c ha hc;have:=(AT4.1 hc).1;omega
  rw[if_neg (by omega),AM];simp[AA,AF,AB,lM,Uv,ht]
theorem KA {α:Type} {ok:α→Bool} {f:α→α→Bool} {l:List α} (P:Nat→Bool) (hP:∀(k:Nat) x,l[k]?=some x→(∀j <k,P j=true)→P k=(ok x&&(match k with|0=>true|j+1=>match l[j]? with|some y=>f y x|none=>true))):
  (l.all ok&&CA f l)=decide (∀k <l.length,P k=true):=by
 rw[AU3,AT1,EM,AUI,decide_eq_true_eq]
 constructor
 ·rintro⟨h1,h2⟩;have key:∀n,∀k <n,k <l.length→P k=true:=by
   intro n;induction n with
   |zero=>intro k hk;omega
   |succ n ih=>
    intro k hk hkl;have hx:l[k]?=some l[k]:=AT2 hkl;rw[hP k _ hx λj hj=>ih j (by omega) (by omega),h1 _ (AUs hkl),AUh];cases k with
    |zero=>rfl
    |succ j=>
     have hy:l[j]?=some l[j]:=AT2 (by omega);simp only[hy];exact h2 j _ _ hy hx
  exact λk hk=>key (k+1) k (by omega) hk
 ·intro h;have h3:∀(k:Nat) x,l[k]?=some x→(ok x&&(match k with|0=>true|j+1=>match l[j]? with|some y=>f y x|none=>true))=true:=by
   intro k x hx;have hk:=(AT4.1 hx).1;rw[←hP k x hx λj hj=>h j (by omega)];exact h k hk
  refine⟨λx hx=>?_,λi x y hx hy=>?_⟩
  ·obtain⟨k,hk⟩:=AWZ hx;have:=h3 k x hk;simp only[AT1]at this;exact this.1
  ·have:=h3 (i+1) y hy;simp only[AT1,hx]at this;exact this.2
def Rgt.row (r:Rgt):Row:= .cells [.v (.int .i64 r.file),.v (.int .i64 r.state),.v (.int .i64 r.force),.v (.list (r.claims.map Clm.V)),.v (.list (r.dates.map Dat.V)),.v (AL .i64 r.bad),.v (.list (r.owners.map Own.V)),.v (.list (r.lics.map Lic.V))]
def F7 {α:Type} (f:α→α→Bool) (l:List α) (k:Nat) (x:α):Bool:=match k with|0=>true|j+1=>match l[j]? with|some y=>f y x|none=>true
set_option maxHeartbeats 4000000 in
theorem AEZ (x:Lic) (q:Nat) (H:List Row) (hq:H[q]?=some (.cells [.v (.int .i64 x.fr),.v (.int .i64 x.to),.v (.int .i64 x.fst),.v (.int .i64 x.lst)])) (d10:D) (K:St→Prop)
  (hK:∀e',AH e' 1= .ref 0 0→AH e' 10=d10→AH e' 228= .v (.bool (!Fp x))→K ⟨e',H⟩):
  BE Tryz.prog GLx QK K ⟨[(1,.ref 0 0),(10,d10),(11,.ref q 0)],H⟩:=by
 have p1:=(Ja x.fr 1 4095).fsp;have p2:=(Ja x.to 1 4095).fsp;have p3:=(Ja x.fst 0 x.lst).fsp;unfold Fp at hK;generalize inI x.fr 1 4095=A at*;generalize inI x.to 1 4095=B at*;generalize inI x.fst 0 x.lst=C at*;simp at p1 p2 p3;simp only[QK];simp[hq];refine⟨_,_,p1 _,?_⟩;cases A with
 |false=>simp;exact hK _ rfl rfl rfl
 |true=>
 simp[hq];refine⟨_,_,p2 _,?_⟩;cases B with
 |false=>simp;exact hK _ rfl rfl rfl
 |true=>
 simp[hq];refine⟨_,_,p3 _,?_⟩;cases C with
 |false=>simp;exact hK _ rfl rfl rfl
 |true=>
 simp[hq];refine hK _ rfl rfl ?_;simp;by_cases h:x.lst≤131072<;>simp[h]<;>omega
set_option maxHeartbeats 4000000 in
theorem AJG (x:Dat) (n:Nat) (last:Int) (q:Nat) (H:List Row) (hq:H[q]?=some (.cells [.v (.int .i64 x.cl),.v (.int .i64 x.ix),.v (.int .i64 x.day),.v (.int .i64 x.file)])) (hn:n≤2^30) (d1 d5:D) (K:St→Prop)
  (hK:∀e',AH e' 1=d1→AH e' 3= .v (.int .i64 n)→AH e' 5=d5→AH e' 6= .ref q 0→AH e' 98= .v (.bool (!(Fs n x&&decide (last <64*x.cl+x.ix))))→K ⟨e',H⟩):
  BE Tryz.prog GLx bE K ⟨[(1,d1),(3,.v (.int .i64 n)),(4,.v (.int .i64 last)),(5,d5),(6,.ref q 0)],H⟩:=by
 have p1:=(Ja x.cl 0 (n-1)).fsp;have p2:=(Ja x.ix 0 63).fsp;have p3:=(Ja x.day 0 131072).fsp;have p4:=(Ja x.file 0 4095).fsp;have w0:IntKind.i64.wrap ((n:Int)-1)=n-1:=AJ;have b1:inI x.cl 0 (n-1)=true→0≤x.cl∧x.cl≤n-1:=by simp[inI]
 have b2:inI x.ix 0 63=true→0≤x.ix∧x.ix≤63:=by simp[inI]
 unfold Fs at hK;generalize inI x.cl 0 (n-1)=A at*;generalize inI x.ix 0 63=B at*;generalize inI x.day 0 131072=C at*;generalize inI x.file 0 4095=E at*;simp at p1 p2 p3 p4;simp only[bE];simp[hq,w0];refine⟨_,_,p1 _,?_⟩;cases A with
 |false=>simp;exact hK _ rfl rfl rfl rfl rfl
 |true=>
 simp[hq];refine⟨_,_,p2 _,?_⟩;cases B with
 |false=>simp;exact hK _ rfl rfl rfl rfl rfl
 |true=>
 have b1:=b1 rfl;have b2:=b2 rfl;have w1:IntKind.i64.wrap (64*x.cl)=64*x.cl:=AJ;have w2:IntKind.i64.wrap (64*x.cl+x.ix)=64*x.cl+x.ix:=AJ;simp[hq];refine⟨_,_,p3 _,?_⟩;cases C with
 |false=>simp;exact hK _ rfl rfl rfl rfl rfl
 |true=>
 simp[hq];refine⟨_,_,p4 _,?_⟩;cases E with
 |false=>simp;exact hK _ rfl rfl rfl rfl rfl
 |true=>
 simp[hq,w1,w2];refine hK _ rfl rfl rfl rfl ?_;simp;by_cases h:last <64*x.cl+x.ix<;>simp[h]<;>omega
set_option maxHeartbeats 4000000 in
theorem AEb (r:Rgt) (n k:Nat) (x:Int) (H:List Row) (h0:H[0]?=some r.row) (hx:r.bad[k]?=some x) (hn:n≤2^30) (hk:k≤2^30) (d111:D) (K:St→Prop)
  (hK:∀e',AH e' 1= .ref 0 0→AH e' 3= .v (.int .i64 n)→AH e' 7= .v (.int .i64 k)→AH e' 140= .v (.bool (!(inI x 0 (n-1)&&F7 (λa b=>decide (a <b)) r.bad k x)))→K ⟨e',H⟩):
  IS Tryz.prog GLx QO K ⟨[(1,.ref 0 0),(3,.v (.int .i64 n)),(7,.v (.int .i64 k)),(111,d111)],H⟩:=by
 have p1:=Ja x 0 (n-1);have w0:IntKind.i64.wrap ((n:Int)-1)=n-1:=AJ;generalize inI x 0 (n-1)=A at*;simp only[QO];simp[h0,Rgt.row,w0,AL,hx];refine⟨_,_,⟨rfl,rfl⟩,_,p1,?_⟩;cases A with
 |false=>simp;exact hK _ rfl rfl rfl rfl
 |true=>
 cases k with
 |zero=>simp;exact hK _ rfl rfl rfl rfl
 |succ j=>
  have hj:j <r.bad.length:=by have:=(AT4.1 hx).1;omega
  obtain⟨y,hy⟩:∃y,r.bad[j]?=some y:=⟨_,AT2 hj⟩;have w1:IntKind.i64.wrap (((j+1:Nat):Int)-1)=j:=by rw[AJ];omega
  have w2:(0:Int) <((j+1:Nat):Int):=by omega
  have w5:IntKind.i64.wrap (j:Int)=j:=AJ;have w3:(0:Int)≤((j+1:Nat):Int):=by omega
  have w4:((j+1:Nat):Int).toNat=j+1:=by omega
  simp only[AU7,AVx]at w1 w2 w3 w4;simp[h0,Rgt.row,AL,hx,w1,w2,w5,w3,w4,hy];refine hK _ rfl rfl (by simp) ?_;simp[F7,hy];by_cases h:y <x<;>simp[h]<;>omega
set_option maxHeartbeats 4000000 in
theorem AEa (r:Rgt) (k:Nat) (x:Own) (hxo:x.ok) (q:Nat) (H:List Row) (h0:H[0]?=some r.row) (hx:r.owners[k]?=some x) (hk:k≤2^30) (hq:H[q]?=some (.cells [.v (.int .i64 x.party),.v (.int .i64 x.num),.v (.int .i64 x.den)])) (K:St→Prop)
  (hK:∀e',AH e' 1= .ref 0 0→AH e' 8= .v (.int .i64 k)→AH e' 193= .v (.bool (!(EO x&&F7 (λa b=>decide (a.party <b.party)) r.owners k x)))→K ⟨e',H⟩):
  IS Tryz.prog GLx QM K ⟨[(1,.ref 0 0),(8,.v (.int .i64 k)),(9,.ref q 0)],H⟩:=by
 have p1:=Ja x.party 1 4095;have p2:=AJu x.num x.den hxo.2.1 hxo.2.2;unfold EO at hK;generalize inI x.party 1 4095=A at*;generalize okR x.num x.den=B at*;simp[A5]at p2;simp only[QM];simp[hq];refine⟨_,_,⟨rfl,rfl⟩,_,p1,?_⟩;cases A with
 |false=>simp;exact hK _ rfl rfl rfl
 |true=>
 simp[hq];refine⟨_,_,⟨rfl,rfl⟩,_,p2,?_⟩;cases B with
 |false=>simp;exact hK _ rfl rfl rfl
 |true=>
 simp[hq];by_cases h1:x.num≤0
 ·have h1':¬0 <x.num:=by omega
  simp[h1];exact hK _ rfl rfl (by simp[h1'])
 have h1':0 <x.num:=by omega
 simp[h1,hq];by_cases h2:x.den <x.num
 ·have h2':¬x.num≤x.den:=by omega
  simp[h2];exact hK _ rfl rfl (by simp[h2'])
 have h2':x.num≤x.den:=by omega
 simp[h2];cases k with
 |zero=>simp;exact hK _ rfl rfl (by simp[h1',h2',F7])
 |succ j=>
  have hj:j <r.owners.length:=by have:=(AT4.1 hx).1;omega
  obtain⟨y,hy⟩:∃y,r.owners[j]?=some y:=⟨_,AT2 hj⟩;have w1:IntKind.i64.wrap (((j+1:Nat):Int)-1)=j:=by rw[AJ];omega
  have w2:(0:Int) <((j+1:Nat):Int):=by omega
  have w5:IntKind.i64.wrap (j:Int)=j:=AJ;simp only[AU7,AVx]at w1 w2;simp[h0,Rgt.row,hq,w1,w2,w5,hy,Own.V];refine hK _ rfl (by simp) ?_;simp[F7,hy,h1',h2'];by_cases h:y.party <x.party<;>simp[h]<;>omega
def Ht (ds:List Dat):Nat→Int
 |0=> -1
 |j+1=>match ds[j]? with|some y=>64*y.cl+y.ix|none=> -1
def pD (n:Nat) (ds:List Dat) (k:Nat):Bool:=match ds[k]? with|some x=>Fs n x&&decide (Ht ds k <64*x.cl+x.ix)|none=>true
def pL {α:Type} (ok:α→Bool) (f:α→α→Bool) (l:List α) (k:Nat):Bool:=match l[k]? with|some x=>ok x&&F7 f l k x|none=>true
theorem vB (n lo hi:Int):inI n lo hi=true↔lo≤n∧n≤hi:=by simp[inI]
theorem MV {n:Nat} {x:Dat} (h:Fs n x=true):0≤x.cl∧x.cl≤n-1∧0≤x.ix∧x.ix≤63:=by
 simp only[Fs,AT1,vB]at h;omega
theorem Wb (n:Nat) (ds:List Dat):(ds.all (Fs n)&&CA Ft ds)=decide (∀k <ds.length,pD n ds k=true):=by
 refine KA (pD n ds) λk x hx hprev=>?_;simp only[pD,hx];cases hok:Fs n x with
 |false=>simp
 |true=>
  have b:=MV hok;simp only[AUh];cases k with
  |zero=>
   have: -1 <64*x.cl+x.ix:=by omega
   simp[Ht,this]
  |succ j=>
   cases hy:ds[j]? with
   |none=>
    have: -1 <64*x.cl+x.ix:=by omega
    simp[Ht,hy,this]
   |some y=>
    have h1:=hprev j (by omega);simp only[pD,hy,AT1]at h1;have b2:=MV h1.1;simp only[Ht,hy,Ft];rw[AU3];simp;omega
theorem OP {α:Type} (ok:α→Bool) (f:α→α→Bool) (l:List α):(l.all ok&&CA f l)=decide (∀k <l.length,pL ok f l k=true):=by
 refine KA (pL ok f l) λk x hx _=>?_;simp only[pL,hx];rfl
theorem wp {α:Type} (ok:α→Bool) (l:List α):l.all ok=decide (∀k <l.length,∀x,l[k]?=some x→ok x=true):=by
 rw[AU3,AUI,decide_eq_true_eq]
 constructor
 ·exact λh k _ x hx=>h x (AT3 hx)
 ·intro h x hx;obtain⟨k,hk⟩:=AWZ hx;exact h k (AT4.1 hk).1 x hk
theorem AKG (r:Rgt) (n:Nat) (hn:n≤2^30) (hl:r.dates.length≤2^30) (J0:List Row) (Q:AExit→St→Prop)
  (hgo:(∀k <r.dates.length,pD n r.dates k=true)→∀e J,AH e 1= .ref 0 0→AH e 3= .v (.int .i64 n)→Q (.exit 0) ⟨e,r.row::J⟩)
  (hbad:¬(∀k <r.dates.length,pD n r.dates k=true)→∀s,AH s.e 2= .v (.bool false)→Q .ret s):
  awp Tryz.prog GLx (.loop UF) Q ⟨[(1,.ref 0 0),(3,.v (.int .i64 n)),(4,.v (.int .i64 (-1))),(5,.v (.int .i64 0))],r.row::J0⟩:=by
 refine Aa r.dates.length (λk s=>s.e=[(1,.ref 0 0),(3,.v (.int .i64 n)),(4,.v (.int .i64 (Ht r.dates k))),(5,.v (.int .i64 k))]∧(∃J,s.h=r.row::J)∧∀j <k,pD n r.dates j=true) ⟨rfl,⟨J0,rfl⟩,by simp⟩ ?_;rintro k ⟨se,sh⟩ hk ⟨he,⟨J,hh⟩,hI⟩;simp only at he hh;subst he hh;simp only[UF,AB,AA,AG,AE,ABk];simp[Rgt.row];by_cases hlt:k <r.dates.length
 ·obtain⟨x,hx⟩:∃x,r.dates[k]?=some x:=⟨_,AT2 hlt⟩;have hw:IntKind.i64.wrap ((k:Int)+1)=k+1:=AJ;have hpk:pD n r.dates k=(Fs n x&&decide (Ht r.dates k <64*x.cl+x.ix)):=by simp only[pD,hx]
  have hnx:Ht r.dates (k+1)=64*x.cl+x.ix:=by simp only[Ht,hx]
  rw[if_pos (by omega),AD];simp only[AA,ABi];simp[hx,Dat.V,AN];refine AJG x n (Ht r.dates k) (J.length+1) _ (by simp) hn _ _ _ ?_;intro e' f1 f3 f5 f6 f98;rw[←hpk]at f98;simp[f98];cases hp:pD n r.dates k with
  |false=>
   have hnot:¬ ∀k <r.dates.length,pD n r.dates k=true:=λh=>by rw[h k hlt]at hp;cases hp
   simp[AA,AF,bV];exact hbad hnot _ rfl
  |true=>
   rw[hp]at hpk;have hdo:Fs n x=true:=by
    have:=hpk.symm;simp only[AT1]at this;exact this.1
   have b:=MV hdo;have w1:IntKind.i64.wrap (64*x.cl)=64*x.cl:=AJ;have w2:IntKind.i64.wrap (64*x.cl+x.ix)=64*x.cl+x.ix:=AJ;simp[AD,bU,f1,f3,f5,f6,w1,w2,ABj,hw,hlt,hnx];intro j hj;rcases AUS j k with h|h
   ·exact hI j h
   ·have:j=k:=by omega
    subst this;exact hp
 ·have:k=r.dates.length:=by omega
  subst this;rw[if_neg (by omega),AM];simp;exact hgo hI _ J rfl rfl
theorem AKF (r:Rgt) (n:Nat) (hn:n≤2^30) (hl:r.bad.length≤2^30) (J:List Row) (Q:AExit→St→Prop)
  (hgo:(∀k <r.bad.length,pL (λi=>inI i 0 (n-1)) (λa b=>decide (a <b)) r.bad k=true)→∀e,AH e 1= .ref 0 0→Q (.exit 2) ⟨e,r.row::J⟩)
  (hbad:¬(∀k <r.bad.length,pL (λi=>inI i 0 (n-1)) (λa b=>decide (a <b)) r.bad k=true)→∀s,AH s.e 2= .v (.bool false)→Q .ret s):
  awp Tryz.prog GLx (.loop UE) Q ⟨[(1,.ref 0 0),(3,.v (.int .i64 n)),(7,.v (.int .i64 0))],r.row::J⟩:=by
 refine BQ r.bad.length (λk=>⟨[(1,.ref 0 0),(3,.v (.int .i64 n)),(7,.v (.int .i64 k))],r.row::J⟩) (λk=>∀j <k,pL (λi=>inI i 0 (n-1)) (λa b=>decide (a <b)) r.bad j=true) rfl (by simp) ?_;intro k hk hI;simp only[UE,AB,AA,AG,AE,bT];simp[Rgt.row,AL];by_cases hlt:k <r.bad.length
 ·obtain⟨x,hx⟩:∃x,r.bad[k]?=some x:=⟨_,AT2 hlt⟩;have hw:IntKind.i64.wrap ((k:Int)+1)=k+1:=AJ;have hpk:pL (λi=>inI i 0 (n-1)) (λa b=>decide (a <b)) r.bad k=(inI x 0 (n-1)&&F7 (λa b=>decide (a <b)) r.bad k x):=by simp only[pL,hx]
  rw[if_pos (by omega),AD];simp only[AW]
  try simp
  refine AEb r n k x (r.row::J) rfl hx hn (by omega) _ _ ?_;intro e' f1 f3 f7 f140;rw[←hpk]at f140;simp[f140];cases hp:pL (λi=>inI i 0 (n-1)) (λa b=>decide (a <b)) r.bad k with
  |false=>
   have hnot:¬ ∀k <r.bad.length,pL (λi=>inI i 0 (n-1)) (λa b=>decide (a <b)) r.bad k=true:=λh=>by rw[h k hlt]at hp;cases hp
   simp[AA,AF,bR];exact hbad hnot _ rfl
  |true=>
   simp[AD,AA,f1,f3,f7,bS,hw,hlt,Rgt.row,AL];intro j hj;rcases AUS j k with h|h
   ·exact hI j h
   ·have:j=k:=by omega
    subst this;exact hp
 ·have:k=r.bad.length:=by omega
  subst this;rw[if_neg (by omega),AM];simp;exact hgo hI _ rfl
theorem AKE (r:Rgt) (ho:∀o∈r.owners,o.ok) (hl:r.owners.length≤2^30) (J0:List Row) (Q:AExit→St→Prop)
  (hgo:(∀k <r.owners.length,pL EO (λa b=>decide (a.party <b.party)) r.owners k=true)→∀e J,AH e 1= .ref 0 0→Q (.exit 4) ⟨e,r.row::J⟩)
  (hbad:¬(∀k <r.owners.length,pL EO (λa b=>decide (a.party <b.party)) r.owners k=true)→∀s,AH s.e 2= .v (.bool false)→Q .ret s):
  awp Tryz.prog GLx (.loop UD) Q ⟨[(1,.ref 0 0),(8,.v (.int .i64 0))],r.row::J0⟩:=by
 refine Aa r.owners.length (λk s=>s.e=[(1,.ref 0 0),(8,.v (.int .i64 k))]∧(∃J,s.h=r.row::J)∧∀j <k,pL EO (λa b=>decide (a.party <b.party)) r.owners j=true) ⟨rfl,⟨J0,rfl⟩,by simp⟩ ?_;rintro k ⟨se,sh⟩ hk ⟨he,⟨J,hh⟩,hI⟩;simp only at he hh;subst he hh;simp only[UD,AB,AA,AG,AE,bQ];simp[Rgt.row];by_cases hlt:k <r.owners.length
 ·obtain⟨x,hx⟩:∃x,r.owners[k]?=some x:=⟨_,AT2 hlt⟩;have hw:IntKind.i64.wrap ((k:Int)+1)=k+1:=AJ;have hpk:pL EO (λa b=>decide (a.party <b.party)) r.owners k=(EO x&&F7 (λa b=>decide (a.party <b.party)) r.owners k x):=by simp only[pL,hx]
  rw[if_pos (by omega),AD];simp only[AA,bN];simp[hx,Own.V,AN,AW];refine AEa r k x (ho x (AT3 hx)) (J.length+1) _ (by rfl) hx (by omega) (by simp) _ ?_;intro e' f1 f8 f193;rw[←hpk]at f193;simp[f193];cases hp:pL EO (λa b=>decide (a.party <b.party)) r.owners k with
  |false=>
   have hnot:¬ ∀k <r.owners.length,pL EO (λa b=>decide (a.party <b.party)) r.owners k=true:=λh=>by rw[h k hlt]at hp;cases hp
   simp[AA,AF,bM];exact hbad hnot _ rfl
  |true=>
   simp[AD,AA,f1,f8,bP,hw,hlt];intro j hj;rcases AUS j k with h|h
   ·exact hI j h
   ·have:j=k:=by omega
    subst this;exact hp
 ·have:k=r.owners.length:=by omega
  subst this;rw[if_neg (by omega),AM];simp;exact hgo hI _ J rfl
theorem AKD (r:Rgt) (hl:r.lics.length≤2^30) (J0:List Row) (Q:AExit→St→Prop)
  (hgo:r.lics.all Fp=true→∀s,Q (.exit 6) s)
  (hbad:r.lics.all Fp=false→∀s,AH s.e 2= .v (.bool false)→Q .ret s):
  awp Tryz.prog GLx (.loop UC) Q ⟨[(1,.ref 0 0),(10,.v (.int .i64 0))],r.row::J0⟩:=by
 refine Aa r.lics.length (λk s=>s.e=[(1,.ref 0 0),(10,.v (.int .i64 k))]∧(∃J,s.h=r.row::J)∧∀j <k,∀x,r.lics[j]?=some x→Fp x=true) ⟨rfl,⟨J0,rfl⟩,by simp⟩ ?_;rintro k ⟨se,sh⟩ hk ⟨he,⟨J,hh⟩,hI⟩;simp only at he hh;subst he hh;simp only[UC,AB,AA,AG,AE,bL];simp[Rgt.row];by_cases hlt:k <r.lics.length
 ·obtain⟨x,hx⟩:∃x,r.lics[k]?=some x:=⟨_,AT2 hlt⟩;have hw:IntKind.i64.wrap ((k:Int)+1)=k+1:=AJ;rw[if_pos (by omega),AD];simp only[AA,bJ];simp[hx,Lic.V,AN];refine AEZ x (J.length+1) _ (by simp) _ _ ?_;intro e' f1 f10 f228;simp[f228];cases hp:Fp x with
  |false=>
   have hnot:r.lics.all Fp=false:=by
    rw[List.all_eq_false];exact⟨x,AT3 hx,by rw[hp];decide⟩
   simp[AA,AF,bI];exact hbad hnot _ rfl
  |true=>
   simp[AD,AA,f1,f10,bK,hw,hlt];intro j hj y hy;rcases AUS j k with h|h
   ·exact hI j h y hy
   ·have:j=k:=by omega
    subst this;rw[hx]at hy;cases hy;exact hp
 ·have:k=r.lics.length:=by omega
  subst this;rw[if_neg (by omega),AM];simp;refine hgo ?_ _;rw[wp,decide_eq_true_eq];exact hI
def AF4:AC:=(.seq (.reg bG [1,3,4]) (.seq (.seq (.reg bF [1,3,4,5]) (.block 0 (.loop UF))) (.seq (.seq (.reg QP [1,3,7]) (.block 2 (.loop UE))) (.seq (.seq (.reg QN [1,8]) (.block 4 (.loop UD))) (.seq (.seq (.reg QL [1,10]) (.block 6 (.loop UC))) (.seq (.reg QJ [2]) .ret))))))
theorem AF5:c49=(.seq (.reg bX [1]) (.seq (.reg bW [1,3]) (.seq (.seq (.reg bO [1,3,48]) (.cond (.t 48 false) (.seq (.reg JT [2]) .ret) .skip)) AF4))):=rfl
set_option maxHeartbeats 1000000 in
theorem p49 (r:Rgt) (hr:r.ok):PX 49 [r.V] [.bool (Au r)]:=by
 refine AK k49 rfl ?_;obtain⟨R,hR⟩:∃R,Au r=R:=⟨_,rfl⟩;rw[hR];unfold Au at hR;have hlc:=hr.lc;have p1:=(Ja r.file 0 4095).fsp;have p2:=(Ja r.state 0 4).fsp;have p3:=(Ja r.force 0 4).fsp;have p4:=(AQ6 r.claims hr.claims (by omega)).fsp;have hD:=Wb r.claims.length r.dates;have hB:=OP (λi=>inI i 0 (r.claims.length-1)) (λa b=>decide (a <b)) r.bad;have hO:=OP EO (λa b=>decide (a.party <b.party)) r.owners;rw[hD,hB,hO]at hR;simp at p1 p2 p3 p4;rw[AF5];simp only[AB,AA,AG,AE,bX,bW,AY];simp[Rgt.V,Rgt.cs];generalize inI r.file 0 4095=A1 at*;generalize inI r.state 0 4=A2 at*;generalize inI r.force 0 4=A3 at*;generalize CR r.claims=A4 at*;simp only[bO];simp;refine⟨_,_,p1 _,?_⟩;cases A1 with
 |false=>simp at hR;simp[AB,AA,AF,JT,Iu,hR]
 |true=>
 simp;refine⟨_,_,p2 _,?_⟩;cases A2 with
 |false=>simp at hR;simp[AB,AA,AF,JT,Iu,hR]
 |true=>
 simp;refine⟨_,_,p3 _,?_⟩;cases A3 with
 |false=>simp at hR;simp[AB,AA,AF,JT,Iu,hR]
 |true=>
 simp;refine⟨_,_,p4 _,?_⟩;by_cases h4:A4=0
 case neg=>
  have hf:R=false:=by rw[←hR];simp[h4]
  simp[h4,AB,AA,AF,JT,Iu,hf]
 subst h4;by_cases h5:4096 <r.dates.length
 ·have h5':4096 <(r.dates.length:Int):=by omega
  have hf:R=false:=by rw[←hR];simp[show ¬r.dates.length≤4096 by omega]
  simp[h5',AB,AA,AF,JT,Iu,hf]
 have h5':¬4096 <(r.dates.length:Int):=by omega
 by_cases h6:4096 <r.lics.length
 ·have h6':4096 <(r.lics.length:Int):=by omega
  have hf:R=false:=by rw[←hR];simp[show ¬r.lics.length≤4096 by omega]
  simp[h5',h6',AB,AA,AF,JT,Iu,hf]
 have h6':¬4096 <(r.lics.length:Int):=by omega
 have e5:decide (r.dates.length≤4096)=true:=by simpa using h5
 have e6:decide (r.lics.length≤4096)=true:=by simpa using h6
 rw[e5,e6]at hR;simp only[beq_self_eq_true,AVh,AUh]at hR;simp[h5',h6',AD];have fin:∀e,AH e 1= .ref 0 0→AH e 3= .v (.int .i64 r.claims.length)→awp Tryz.prog GLx AF4 (λe s=>(match e with| .exit _=>False|_=>True)∧CB s Iu=some [.bool R]) ⟨e,[r.row]⟩:=by
  intro e f1 f3;unfold AF4;simp only[AB,AA,AG,bG,bF];simp[f1,f3];refine AKG r r.claims.length hlc hr.ld [] _ ?_ ?_
  ·intro hd e J g1 g3;rw[decide_eq_true hd,AUh]at hR;simp[QP,g1,g3];refine AKF r r.claims.length hlc hr.lb J _ ?_ ?_
   ·intro hb e g1;rw[decide_eq_true hb,AUh]at hR;simp[QN,g1];refine AKE r hr.owners hr.lo J _ ?_ ?_
    ·intro ho e J2 g1;rw[decide_eq_true ho,AUh]at hR;simp[QL,g1];refine AKD r hr.ll J2 _ ?_ ?_
     ·intro hl s;rw[hl]at hR;simp[QJ,AF,Iu,←hR]
     ·intro hl s hs;rw[hl]at hR;simp[Iu,hs,←hR]
    ·intro ho s hs;rw[decide_eq_false ho,AV5]at hR;simp[Iu,hs,←hR]
   ·intro hb s hs;rw[decide_eq_false hb]at hR;simp at hR;simp[Iu,hs,←hR]
  ·intro hd s hs;rw[decide_eq_false hd]at hR;simp at hR;simp[Iu,hs,←hR]
 exact fin _ rfl rfl
def Hk:V:= .list [.list [],.list [.int .i64 0],.list [.int .i64 0],.list [.int .i64 1,.int .i64 2],.list [],.list [.int .i64 4]]
theorem p16:PX 16 [] [Hk]:=by
 refine AK k16 rfl ?_;simp[c16,AB,AA,AF,ADQ,ADP,AOM,AY,Hk]
def GG (n:Int):Int:=([0,7,8,4095,2047][n.toNat]?).getD 0
def CX (l:List Int) (i:Nat):Rgt:=
 let r:=Dd (l.drop (min l.length (1+4*i)))
 {r with file:=GG ((i+Ac l 0 5).tmod 5),force:=if i%2=0 then 0 else r.force}
def AQ (l:List Int):List Rgt:=((List.range (Ac l 0 5).toNat).map (CX l)).filter Au
theorem JD (l:List Int) (i:Nat):(CX l i).tiny 3:=by
 have h:=PY (l.drop (min l.length (1+4*i)));refine⟨?_,h.state,?_,h.claims,h.dates,h.bad,h.owners,h.lics,h.lc,h.ld,h.lb,h.lo,h.ll⟩
 ·simp only[CX,GG];generalize ((i+Ac l 0 5).tmod 5).toNat=k
  match k with
  |0|1|2|3|4=>simp[i64]
  |k+5=>simp[i64]
 ·simp only[CX];split
  ·simp[i64]
  ·exact h.force
def AIq:AC:=(.seq (.reg tn [0,3,4,5,6]) (.seq (.reg tm [0,3,4,5,6]) (.seq (.seq (.reg Vz [0,3,4,5,6,34]) (.cond (.t 34 false) (.reg tj [0,3,4,5,6]) .skip)) (.seq (.reg Nk [0,3,4,5,6,7]) (.seq (.reg I4 [0,3,4,5,6,38]) (.cond (.t 38 false) (.reg Nj [0,3,4,5]) .skip))))))
theorem tv:AD9=(.seq (.seq (.reg tq [0,3,4,5,12]) (.cond (.t 12 false) .skip (.exit 0))) (.seq (.block 1 AIq) (.reg tp [0,3,4,5]))):=rfl
theorem ARl (l:List Int) (n:Int) (k:Nat) (A:List Rgt) (J:List Row) (hk:k <n.toNat) (hn5:n <5) (hA:A.length≤k) (S Q:Rgt)
  (hr:Q={S with file:=GG ((k+n).tmod 5),force:=if k%2=0 then 0 else S.force})
  (p2:PX 48 [AL .i64 (l.drop (min l.length (1+4*k)))] [S.V])
  (p3:PX 49 [Q.V] [.bool (Au Q)]) (K:AExit→St→Prop)
  (hK:∀e J',AH e 0= .v (AL .i64 l)→AH e 3= .own 32 8 ((A++(if Au Q then [Q] else [])).map Rgt.V)→AH e 4= .v (.int .i64 n)→AH e 5= .v (.int .i64 k)→K .normal ⟨e,J'⟩):
  ∀e,AH e 0= .v (AL .i64 l)→AH e 3= .own 32 8 (A.map Rgt.V)→AH e 4= .v (.int .i64 n)→AH e 5= .v (.int .i64 k)→awp Tryz.prog GLx AIq K ⟨e,J⟩:=by
 intro e f0 f3 f4 f5;have v2:IntKind.i64.wrap (4*(k:Int))=4*k:=AJ;have v3:IntKind.i64.wrap (1+4*(k:Int))=1+4*k:=AJ;have v4:IntKind.i64.wrap ((k:Int)+n)=k+n:=AJ;have hroom:Ae (A.length+1) 144=true:=by simp[Ae];omega
 have hmin:(if 1+4*(k:Int) <(l.length:Int) then 1+4*(k:Int) else (l.length:Int))=(min l.length (1+4*k):Nat):=by split<;>omega
 have p2:=p2.fsp;have p3:=p3.fsp;have hlen:min l.length (1+4*k)≤l.length:=Nat.min_le_left _ _;generalize min l.length (1+4*k)=m at*;simp[AL,Rgt.V,Rgt.cs]at p2 p3 f0;unfold AIq;simp only[AB,AA,AE,tn];have htk:(l.map (V.int .i64)).take l.length=l.map (V.int .i64):=AUc (by simp);simp[v2,v3,AL,hmin,hlen,Rgt.V,Rgt.cs,htk,f0,f3,f4,f5];refine⟨_,_,p2 _,?_⟩;have t0:0≤((k:Int)+n).tmod 5:=AWa _ (by omega);have t1:([V.int .i64 0,V.int .i64 7,V.int .i64 8,V.int .i64 4095,V.int .i64 2047])[(((k:Int)+n).tmod 5).toNat]?=some (.int .i64 (GG (((k:Int)+n).tmod 5))):=by
  have t2:=W2 ((k:Int)+n) 5 (by decide);unfold GG;obtain⟨q,hq⟩:∃q,(((k:Int)+n).tmod 5).toNat=q:=⟨_,rfl⟩;rw[hq];have:q <5:=by omega
  match q,this with
  |0,_|1,_|2,_|3,_|4,_=>rfl
 generalize GG (((k:Int)+n).tmod 5)=fl at*;simp[AN,tm,v4,t0,t1,f0,f3,f4,f5];have hcl:∀f:Int,Q.claims=S.claims∧Q.dates=S.dates∧Q.bad=S.bad∧Q.owners=S.owners∧Q.lics=S.lics∧Q.file=fl∧Q.state=S.state∧Q.force=if k%2=0 then 0 else S.force:=by subst hr;simp
 obtain⟨e1,e2,e3,e4,e5,e6,e7,e8⟩:=hcl 0;rw[e1,e2,e3,e4,e5,e6,e7,e8]at p3;have hk2:(k:Int).tmod 2=0↔k%2=0:=by rw[AWq (by omega)];omega
 by_cases h2:k%2=0
 ·rw[if_pos h2]at p3 e8;have h2':=hk2.2 h2;simp[Vz,f0,f3,f4,f5,h2',AA,tj,AN,Nk,D.vs?,D.v?];refine⟨_,_,(p3 _),?_⟩;cases hf:Au Q with
  |false=>
   rw[hf]at hK;simp[I4,f0,f3,f4,f5,AD];exact hK _ _ (by simp[AL]) (by simp) (by simp) (by simp)
  |true=>
   rw[hf]at hK;simp[I4,f0,f3,f4,f5,AA,Nj,hroom,D.vs?,D.v?];exact hK _ _ (by simp[AL]) (by simp[Rgt.V,Rgt.cs,e1,e2,e3,e4,e5,e6,e7,e8,AL]) (by simp) (by simp)
 ·rw[if_neg h2]at p3 e8;have h2':¬(k:Int).tmod 2=0:=λh=>h2 (hk2.1 h);simp[Vz,f0,f3,f4,f5,h2',AD,AN,AA,Nk,D.vs?,D.v?];refine⟨_,_,(p3 _),?_⟩;cases hf:Au Q with
  |false=>
   rw[hf]at hK;simp[I4,f0,f3,f4,f5,AD];exact hK _ _ (by simp[AL]) (by simp) (by simp) (by simp)
  |true=>
   rw[hf]at hK;simp[I4,f0,f3,f4,f5,AA,Nj,hroom,D.vs?,D.v?];exact hK _ _ (by simp[AL]) (by simp[Rgt.V,Rgt.cs,e1,e2,e3,e4,e5,e6,e7,e8,AL]) (by simp) (by simp)
theorem p10 (l:List Int):PX 10 [AL .i64 l] [.list ((AQ l).map Rgt.V)]:=by
 refine AK k10 rfl ?_;have p1:=(p47 l 0 5 (by decide)).fsp;have hn:=Dq l 0 5 (by decide);have hrf:∀i:Nat,CX l i={Dd (l.drop (min l.length (1+4*i)))with file:=GG ((i+Ac l 0 5).tmod 5),force:=if i%2=0 then 0 else (Dd (l.drop (min l.length (1+4*i)))).force}:=λ_=>rfl;have hres:AQ l=((List.range (Ac l 0 5).toNat).map (CX l)).filter Au:=rfl;generalize AQ l=R at*;generalize Ac l 0 5=n at*;simp[AL]at p1;simp only[c10,AB,AA,AG,AD8,AD7,AY];simp[AD6,AL];refine⟨_,_,p1 _,?_⟩;simp[AD5];refine Aa n.toNat (λk s=>s.e=[(0,.v (AL .i64 l)),(3,.own 32 8 ((((List.range k).map (CX l)).filter Au).map Rgt.V)),(4,.v (.int .i64 n)),(5,.v (.int .i64 k))]) (by simp[AL]) ?_;rintro k ⟨se,sh⟩ hk he;simp only at he;subst he;simp only[tv,AB,AA,AG,AE,tq];simp;by_cases hlt:k <n.toNat
 ·have v1:IntKind.i64.wrap ((k:Int)+1)=k+1:=AJ;have v2:IntKind.i64.wrap (4*(k:Int))=4*k:=AJ;have v3:IntKind.i64.wrap (1+4*(k:Int))=1+4*k:=AJ;have v4:IntKind.i64.wrap ((k:Int)+n)=k+n:=AJ;have hr:=hrf k;have hle:(((List.range k).map (CX l)).filter Au).length≤k:=by have:=AUn Au ((List.range k).map (CX l));simpa using this
  have hsucc:((List.range (k+1)).map (CX l)).filter Au=((List.range k).map (CX l)).filter Au++(if Au (CX l k) then [CX l k] else []):=by
   rw[AU0,AUZ,AVN];simp[AVi]
  rw[hsucc];have p2:=p48 (l.drop (min l.length (1+4*k)));have p3:=p49 (CX l k) ((JD l k).ok (by decide));generalize ((List.range k).map (CX l)).filter Au=A at*;generalize CX l k=Q at*;generalize Dd (l.drop (min l.length (1+4*k)))=S at*;rw[if_pos (by omega),AD];simp only[AG];refine ARl l n k A _ hlt hn.2 hle S Q hr p2 p3 _ ?_ _ (by simp[AL]) (by simp) (by simp) (by simp);intro e J' f0 f3 f4 f5;simp only[AL]at f0;simp only[AA];simp[tp,v1,hlt,f0,f3,f4,f5,AL];omega
 ·have:k=n.toNat:=by omega
  subst this;rw[if_neg (by omega),AM];simp[tu,AF,AO7,hres]
theorem KP {α:Type} {l:List α} {k:Nat} {x:α} (h:l[k]?=some x) (f:α→V):(l.map f).take (k+1)=(l.map f).take k++[f x]:=by
 rw[AUP,AUG,h];rfl
theorem l46 (Z:List D):
  awp Tryz.prog GLx (.loop b9) (λe s=>e= .exit 0∧AH s.e 5= .ref 0 0∧s.h=[.cells (.own 22 1 (DM.map (AL .i64))::Z)])
   ⟨[(4,.v (.int .i64 6)),(5,.ref 0 0),(14,.v (.list (DM.map (AL .i64)))),(15,.v (.int .i64 6)),(16,.v (.int .i64 0))],[.cells (.own 22 1 []::Z)]⟩:=by
 refine Ad 6 (λk=>⟨[(4,.v (.int .i64 6)),(5,.ref 0 0),(14,.v (.list (DM.map (AL .i64)))),(15,.v (.int .i64 6)),(16,.v (.int .i64 k))],[.cells (.own 22 1 ((DM.take k).map (AL .i64))::Z)]⟩) (by simp) ?_;intro k hk;simp only[b9,AB,AA,AG,AE,ABr];simp;have hp6:DM.length=6:=rfl;by_cases hlt:k <6
 ·obtain⟨ps,hps⟩:∃ps,DM[k]?=some ps:=⟨_,AT2 (by omega)⟩;have hmem:=AT3 hps;have p1:=(AJx ps hmem).fsp;have p2:=(AJw ps hmem).fsp;have p3:=AJv ps hmem;have hw:IntKind.i64.wrap ((k:Int)+1)=k+1:=AJ;have e:=KP hps (AL .i64);have hm:min k DM.length=k:=by omega
  have hroom:Ae (k+1) 24=true:=by simp[Ae];omega
  generalize DM=par at*;rw[if_pos (by omega),AD];simp only[AA,ABq];simp only[AL]at p1 p2 p3 e;simp at p1 p2;simp[hps,AL];simp only[ABp];simp;refine⟨_,_,(p1 _),?_⟩;simp;refine⟨_,_,(p2 _),?_⟩;simp[AD,AW,b8];refine⟨_,_,⟨rfl,rfl⟩,_,p3,?_⟩;simp[hm,hroom,AN,b7,hw,hlt,e]
 ·have:k=6:=by omega
  subst this;rw[if_neg (by omega),AM];have:(DM.map (AL .i64)).take 6=DM.map (AL .i64):=rfl;simp[this]
def zb:List Bool:=List.replicate 4096 false
def zD:List D:=List.replicate 4096 (.v (.bool false))
theorem AJE:zD=zb.map bv:=by rw[zD,zb,List.map_replicate]
theorem AEC:zD.map D.toRow=zD:=by rw[zD,List.map_replicate];rfl
theorem Ww:zb.length=4096:=by rw[zb,List.length_replicate]
def bw:List GI:=[⟨none,.p 12 (.build (.nil 22 1::zD) [])⟩,⟨none,.box 13 (.t 12 false)⟩,⟨none,.mv 5 (.t 13 false)⟩]
theorem bu:ABt=bw:=rfl
theorem p46:FX 46 [.v (.list (DM.map (AL .i64)))] [] [.ref 0 0,.v (.int .i64 0)] (Bn (CV 6 zb) (tfs 6) (tfs 6)):=by
 refine AV k46 rfl ?_;have q:=l46 zD;have q2:=AQ8 zb Ww;rw[txR,←AJE,F8]at q2;generalize Bn (CV 6 zb) (tfs 6) (tfs 6)=HH at*;have hp6:DM.length=6:=rfl;have hz:=AEC;simp only[c46,AB,AA,AG,AE,ABw,ABv,AS];rw[bu];unfold bw;generalize zD=Z at*;generalize DM=par at*;simp[hp6,ABu,AD];simp[hz,ABs,hp6];refine Ag _ ?_ q;rintro e ⟨se,sh⟩ ⟨rfl,f5,hh⟩;simp only at f5 hh;subst hh;simp[bz,f5];refine⟨_,_,q2,?_⟩;simp[AD,bx,AF,AMR,f5]
theorem p9:FX 9 [] [] [.ref 0 0] [.dead]:=by
 have key:FX 9 [] [] [.ref 0 0] [txR (CV 6 zb)]:=by
  refine Ai k9 rfl (by simp) ?_ ?_ ?_
  ·intro row hrow;simp only[AUC]at hrow;subst hrow;simp only[txR,Row.low];refine EB λd hd=>?_;rcases AT7.1 hd with rfl|hd
   ·rfl
   ·obtain⟨b,-,rfl⟩:=AT9.1 hd;rfl
  ·intro d hd;simp only[AUC]at hd;subst hd;rfl
  have q1:=p16.fsp;have q2:=p46;have e:Hk= .list (DM.map (AL .i64)):=rfl;rw[e]at q1;have hJ:∃J,Bn (CV 6 zb) (tfs 6) (tfs 6)=[txR (CV 6 zb)]++J:=⟨_,rfl⟩;generalize Bn (CV 6 zb) (tfs 6) (tfs 6)=HH at*;generalize txR (CV 6 zb)=TX at*;generalize DM=par at*;simp at q1 hJ;simp only[c9,AB,AA,AE,AFa,AFZ,AS];simp;refine⟨_,_,(q1 _),?_⟩;simp;refine⟨_,_,q2,?_⟩;simp[AFY,AD,AFX,AF,c9R,hJ]
 exact key.kill 0
end Go.Va
