/- Laws, part 12. No condition. -/
import Derived.Test.YtopldfpkgbkomaaGreatDoorL09
import Derived.Test.YtopldfpkgbkomaaGreatDoorL11
set_option linter.all false
set_option maxRecDepth 100000
set_option maxHeartbeats 4000000
noncomputable section
namespace Go.Va
open Go.Proofs
section
structure MeanX (T:List Clm) (g:Nat):Prop where
 len:T.length<=32
 ok:∀c∈T,Clm.ok c
 refs:∀c∈T,c.refs.length<=8
 low:∀(k:Nat)(c:Clm),T[k]?=some c->∀r∈c.refs,0<=r/\r <k
 hg:g<=T.length
 mean:∀f∈Ax (T.take g),f.ok/\A6 f=0
 bad:∀(k:Nat)(c:Clm),g<=k->T[k]?=some c->c.refs≠[]/\(∀r∈c.refs,r <g)/\(B9 (Ax (T.take g)) c).ok/\A6 (B9 (Ax (T.take g)) c)=4
def MeanX.of{T:List Clm}(h:MeanOK T):MeanX T T.length:=
 ⟨h.len,h.ok,h.refs,h.low,ri _,by rw[sE];exact h.mean,λk c G hc=>by have:=(rZ.1 hc).1;omega⟩
variable {k:Nat}
def Nq{T:List Clm}{c:Clm}{g:Nat}(hg:g<=k)(J:k<=T.length)(N:∀r∈c.refs,0<=r/\r <g):B9 (Ax (T.take k)) c=B9 (Ax (T.take g)) c:=by
 unfold B9;split
 .rfl
 .congr 3
  refine congrArg _ (uN λr G=>?_);have:=N r G;rw[Cn T k J,Cn T g AE,List.getElem?_take_of_lt AE,List.getElem?_take_of_lt AE]
variable {i:Nat}
def MP{T:List Clm}{c:Clm}(hc:T[i]?=some c):Ak T i=B9 (Ax (T.take i)) c:=by
 obtain⟨hi,_⟩:=rZ.1 hc;have G:=Fo T hc;have h2:=Cn T (i+1) AE;have J:=Cn T i AE;have O:=CW T;have e:(Ax T)[i]?=some (B9 (Ax (T.take i)) c):=by
  have:((Ax T).take (i+1))[i]?=(Ax T)[i]?:=List.getElem?_take_of_lt AE;have N:((Ax T).take i).length=i:=by rw[sJ];omega
  rw[<-this,<-h2,G,J,sO AE,N,uD];rfl
 unfold Ak;rw[tu,e,sA]
def MeanX.at{T:List Clm}{g:Nat}(h:MeanX T g){c:Clm}(hi:g<=i)(hc:T[i]?=some c):Ak T i=B9 (Ax (T.take g)) c:=
 (MP hc).trans (Nq hi (by have:=(rZ.1 hc).1;omega) λr G=>⟨(h.low i c hc r G).1,(h.bad i c hi hc).2.1 r G⟩)
def MeanX.good{T:List Clm}{g:Nat}(h:MeanX T g)(hi:i <g):(Ak T i).ok/\A6 (Ak T i)=0:=by
 have hg:=h.hg;have G:=h.mean (Ak T i) (by unfold Ak;have J:=CW T;rw[tu,rW AE,sA,Cn T g hg];exact tK.2 ⟨i,by rw[List.getElem?_take_of_lt hi];exact rW _⟩)
 exact G
def MeanX.large{T:List Clm}{g:Nat}(h:MeanX T g)(hi:g<=i)(G:i <T.length):(Ak T i).ok/\A6 (Ak T i)=4:=by obtain⟨c,hc⟩:∃c,T[i]?=some c:=⟨_,rW G⟩;rw[h.at hi hc];exact(h.bad i c hi hc).2.2
def MeanX.okAt{T:List Clm}{g:Nat}(h:MeanX T g){i:Int}(hi:0<=i/\i <T.length):(Ak T i).ok:=by
 obtain⟨m,rfl⟩:∃m:Nat,i=m:=⟨i.toNat,AE⟩;by_cases G:m <g
 .exact(h.good G).1
 .exact(h.large AE AE).1
def ey:F:= .mk 0 0 [] []
def Yi(T:List Clm)(i:Int):F:=if A6 (Ak T i)=0 then Ak T i else ey
def aL(h:List Row)(M:Row)(f:F)(Z:f.ok/\A6 f=4)(k:Nat)(N v20:V)(J:List Row)(W:Nat)(Q:AExit->St->Prop)(hQ:∀e J,AK e 5= .mr h.length->AK e 19= .v N->AK e 20= .v v20->AK e 21=(k:D)->Q .normal ⟨e,h++M::J⟩)(ds:List D)(G:ds.map D.copy=[(f.op:D),(f.n:D),(f.ins.map Ivl.V:D),(f.kids.map F.V:D)])(hJ:(h++M::J)[W]?=some (.cells ds)):
  ∀e,AK e 5= .mr h.length->AK e 6=(k:D)->AK e 8= .R W 0->AK e 9=(true:D)->AK e 19= .v N->AK e 20= .v v20->AK e 21=(k:D)->
   AX OA Q ⟨e,h++M::J⟩:=by
 intro e f5 f6 f8 f9 f19 f20 O;have q:=(cE f Z.1).fsp;rw[Z.2]at q;obtain⟨op,n,ins,kids⟩:=f;simp only[F.V_eq,F.op,F.n,F.ins,F.kids]at q G;have U:ds.length=4:=by have:=congrArg List.length G;simpa using this
 simp only[OA,AH,AJ,AO,AB 317 15];simp[f8,f9,hJ,G,U]at q ⊢;refine⟨_,_,q _,?_⟩;simp[f5,f6,f19,f20,O,AD];exact hQ _ _ rfl rfl rfl rfl
theorem fj(T:List Clm)(g:Nat)(hT:MeanX T g)(m:Nat)(hm:m<=T.length)(h:List Row)(Q:AExit->St->Prop)(hQ:∀e J,AK e 5= .mr h.length->Q (.exit 0) ⟨e,h++EQ ((Ax (T.take (min m g))).map F.V)::J⟩):
  AX (.loop (lG 317 0)) Q ⟨[(5,.mr h.length),(19,.v (.list ((T.take m).map Clm.V))),(20,(m:D)),(21,((0:Nat):D))],h++[EQ []]⟩:=by
 refine Ag m (λk s=>∃J,s=⟨[(5,.mr h.length),(19,.v (.list ((T.take m).map Clm.V))),(20,(m:D)),(21,(k:D))],h++EQ ((Ax (T.take (min k g))).map F.V)::J⟩) ⟨[],by simp[Ax]⟩ ?_;rintro k s hk ⟨J,rfl⟩;rw[T2];simp only[Zw,AB 317 3];simp only[sQ];simp;by_cases a6:k <m
 .obtain⟨c,hc⟩:∃c,T[k]?=some c:=⟨_,rW AE⟩;have c6:=hT.len;have hg:=hT.hg;have b9:=rY hc;have w1:=Bt k;have c0:((T.map Clm.V).take m)[k]?=some c.V:=by rw[List.getElem?_take_of_lt a6,rk,hc];rfl
  have key:∃acc f,Ax (T.take (min k g))=acc/\f=B9 acc c/\(∀r∈c.refs,0<=r/\r <acc.length)/\
    (∀(J:List Row)(a8:Nat)(Q:AExit->St->Prop),(∀e J,AK e 5= .mr h.length->AK e 19= .v (.list ((T.map Clm.V).take m))->AK e 20=(m:D)->AK e 21=(k:D)->Q .normal ⟨e,h++EQ ((Ax (T.take (min (k+1) g))).map F.V)::J⟩)->
     ∀(ds:List D),ds.map D.copy=[(f.op:D),(f.n:D),(f.ins.map Ivl.V:D),(f.kids.map F.V:D)]->(h++EQ (acc.map F.V)::J)[a8]?=some (.cells ds)->
     ∀e,AK e 5= .mr h.length->AK e 6=(k:D)->AK e 8= .R a8 0->AK e 9=(true:D)->AK e 19= .v (.list ((T.map Clm.V).take m))->AK e 20=(m:D)->AK e 21=(k:D)->
      AX OA Q ⟨e,h++EQ (acc.map F.V)::J⟩):=by
   have U:(Ax (T.take (min k g))).length=min k g:=by rw[CW,sJ];omega
   by_cases c2:k <g
   .have e1:min k g=k:=AE;have e2:min (k+1) g=k+1:=AE;rw[e1]at U;have hf:=hT.good c2;rw[MP hc]at hf;refine⟨_,_,rfl,rfl,λr hr=>by rw[e1,U];exact hT.low k c hc r hr,?_⟩;intro J a8 Q hQ ds W hJ;rw[e1]at W hJ ⊢;rw[e2,Fo T hc]at hQ;exact fg h _ _ hf k U _ _ J a8 Q hQ ds W hJ
   .have e1:min k g=g:=AE;have e2:min (k+1) g=g:=AE;rw[e1]at U;obtain⟨b1,b2,b3⟩:=hT.bad k c AE hc;refine⟨_,_,rfl,rfl,λr hr=>by rw[e1,U];exact⟨(hT.low k c hc r hr).1,b2 r hr⟩,?_⟩;intro J a8 Q hQ ds W hJ;rw[e1]at W hJ ⊢;rw[e2]at hQ;exact aL h _ _ b3 k _ _ J a8 Q hQ ds W hJ
  obtain⟨acc,f,b5,a2,a1,hz⟩:=key;have b6:=hT.refs c b9;rw[b5];generalize EQ ((Ax (T.take (min (k+1) g))).map F.V)=MM at*;generalize (T.map Clm.V).take m=TT at*;obtain⟨refs,body⟩:=c;simp only at a1 b6;rw[CF,AD];simp only[AB 317 4,AB 317 5];simp[c0,Clm.V,AQ];unfold ZF;simp only[AH,AJ,AO,AB 317 6];simp[AM];by_cases b0:refs=[]
  .subst b0;have c3:B9 acc ⟨[],body⟩=body:=by simp[B9]
   rw[c3]at a2;subst a2;simp[AD];have Bz:∀(m a b:Row),(h++m::(J++[a,b]))[h.length+J.length+2]?=some b:=by intro m a b;have:=List.getElem?_concat_length (l:=h++m::(J++[a])) (a:=b);simp only[rn,sw,re,sF,t6,uU,<-Nat.add_assoc]at this;exact this
   refine hz _ (h.length+J.length+2) _ ?_ [(f.op:D),(f.n:D),(f.ins.map Ivl.V:D),(f.kids.map F.V:D)] rfl (Bz _ _ _) _ rfl rfl rfl rfl rfl rfl rfl;intro e J' g5 G N O;simp[AB 317 17,g5,G,N,O,w1,a6]
  .have h0:0 <refs.length:=by cases refs with|nil=>exact absurd rfl b0|cons=>simp
   rw[if_pos h0];simp only[AB 317 7];simp;simp only[AY,AB 317 8];simp;have hi:=λC Fr v6 c4 v20 c5 a7 a8 Q=>fq (h++EQ (acc.map F.V)::J) h.length acc Ac C Fr refs (λr hr=>by have:=a1 r hr;omega) b6 body v6 c4 v20 c5 a7 a8 Q;simp[AM]at hi;simp[AQ];rw[show h.length+(J.length+2+1)=h.length+(J.length+1)+2 by omega];refine hi _ _ _ _ _ _ _ _ _ ?_;intro e J' g5 g6 g7 g8 g9 b4 G N O;rw[show h.length+(J.length+1)+2=h.length+(J.length+2+1) by omega]at b4;simp only[AB 317 14];simp[g7,b4];simp[AQ,g5,g6,g8,g9,G,N,O];have Bz:∀(m a b:Row)(Z:List Row),(h++m::(J++a::b::Z))[h.length+(J.length+1+1)]?=some b:=by intro m a b Z;simp
   refine hz _ (h.length+(J.length+1+1)) _ ?_ _ ?_ (Bz _ _ _ _) _ rfl rfl rfl rfl rfl rfl rfl
   .intro e J' g5 G N O;simp[AB 317 17,g5,G,N,O,w1,a6]
   .obtain⟨o,n,i,kk⟩:=body;simp[a2,B9,b0,F.op,F.n,F.ins,F.kids,F.V_eq]
 .have c1:k=m:=AE;subst c1;rw[Bj,AN];exact hQ _ J rfl
def dP(l:List Clm)(g:Nat)(W:MeanX l g)(i:Nat)(hi:i <l.length)(h:List Row)(hl:Low h):
  FX 317 [(l.map Clm.V:D),i] h [.mr h.length] (h++[EQ ((Ax (l.take (min (i+1) g))).map F.V)]):=by
 refine At (D6 317) rfl Ac (hl.app rfl) (by simp[D.lt]) ?_;have G:=fj l g W (i+1) hi h;have Z:=W.len;have w1:=Bt i;have e1:((i:Int)+1).toNat=i+1:=AE;have N:=RW l;have U:EQ []= .map [] [] 0:=rfl;rw[U]at G;simp only[As 317,AH,AJ,AY,AB 317 0,AB 317 1,AB 317 2,AZ];have O:min (i+1) l.length=i+1:=AE;simp[w1,e1,N,O,show 0<=(i:Int)+1 by omega,show i+1<=l.length from hi];simp at G;refine G _ ?_;intro e J g5;simp[AB 317 18,g5,AA,AW 317]
def db(l:List Clm)(g:Nat)(i:Nat)(hi:i <l.length)(N:MeanX l g)(hz:CB l=0):PX 274 [(l.map Clm.V:V),i] [(Yi l i).V,((A6 (Ak l i):Int):V)]:=by
 refine Dh (args:=[_,_]) (rets:=[_,_]) ?_;refine At (D6 274) rfl (ri _) (by intro row h;cases h) (by simp[D.lt]) ?_;have a7:=N.len;have hg:=N.hg;have q1:=(ph l N.ok AE hz i hi).fsp;have G:=dP l g N i hi [.cells [.v (.int .i64 0),.v (.int .i64 0),.W 368 8 [],.W 84 4 []]] (by intro row h;simp at h;subst h;rfl);have O:((Ax (l.take (min (i+1) g))).map F.V).length=min (i+1) g:=by rw[sD,CW,sJ];omega
 unfold Yi;by_cases a6:i <g
 .have a1:=N.good a6;rw[a1.2,if_pos rfl];obtain⟨f,hf⟩:∃f,(Ax l)[i]?=some f:=⟨_,rW (by rw[CW];exact hi)⟩;have J:min (i+1) g=i+1:=AE;rw[J]at G O;have W:(Ax (l.take (i+1)))[i]?=some f:=by rw[Cn l (i+1) hi,sP,CF];exact hf
  have Z:Ak l i=f:=by unfold Ak;simp[hf]
  have hm:Cr false [0] (i:V) (Eb 0 ((Ax (l.take (i+1))).map F.V))=some (some i):=by rw[H8 false,if_pos (by rw[O];omega)];simp
  have a2:(Eb 0 ((Ax (l.take (i+1))).map F.V))[i]?=some ((i:V),f.V):=by have:=IK ((Ax (l.take (i+1))).map F.V) 0 i f.V (by simp[W]);simpa using this
  rw[Z];unfold EQ at G;generalize (Ax (l.take (i+1))).map F.V=es at*;obtain⟨go,gn,gi,gk⟩:=f;simp only[F.V_eq]at*;simp only[As 274,AH,AJ,AO,AB 274 0,AZ];simp;simp only[AB 274 1];simp;refine⟨_,_,q1 _,?_⟩;simp[AB 274 2,AB 274 4];simp at G;refine⟨_,_,G,?_⟩;simp[Be,V.eqL,V.eq1,hm,a2,Da,AQ,AD,AB 274 5,AB 274 7,AA,AW 274,D.one?]
 .have U:=N.large AE hi;rw[U.2,if_neg Ah];have J:min (i+1) g=g:=AE;rw[J]at G O;have hm:Cr false [0] (i:V) (Eb 0 ((Ax (l.take g)).map F.V))=some none:=by rw[H8 false,if_neg (by rw[O];omega)]
  unfold EQ at G;generalize (Ax (l.take g)).map F.V=es at*;simp only[ey,F.V_eq]at*;simp only[As 274,AH,AJ,AO,AB 274 0,AZ];simp;simp only[AB 274 1];simp;refine⟨_,_,q1 _,?_⟩;simp[AB 274 2,AB 274 4];simp at G;refine⟨_,_,G,?_⟩;simp[Be,V.eqL,V.eq1,hm,Da,AQ,AD,AB 274 5,AB 274 6,AA,AW 274,D.one?,D.vs?,D.v?]
theorem gC(T:List Clm)(i:Nat)(c:Clm)(hc:T[i]?=some c)(a1:c.refs.length<=8)(N:Row)(ih:∀r∈c.refs,PX 262 [(T.map Clm.V:V),.int .i64 r] [(Ak T r).V,(true:V)])(Q:AExit->St->Prop)(hQ:∀e J,AK e 0=(T.map Clm.V:D)->AK e 1=(i:D)->AK e 4= .R 0 0->AK e 6= .R 1 0->Q (.exit 0) ⟨e,N::rB 5 0 [] (c.refs.map (Ak T))::J⟩):
  AX (.loop (lG 262 0)) Q ⟨[(0,(T.map Clm.V:D)),(1,(i:D)),(4,.R 0 0),(6,.R 1 0),(7,((0:Int):D))],[N,rB 5 0 [] []]⟩:=by
 refine Ag c.refs.length (λk s=>∃J,s=⟨[(0,(T.map Clm.V:D)),(1,(i:D)),(4,.R 0 0),(6,.R 1 0),(7,(k:D))],N::rB 5 0 [] ((c.refs.map (Ak T)).take k)::J⟩) ⟨[],Ac⟩ ?_;rintro k s hk ⟨J,rfl⟩;simp only[Zw,BG 262 0,AB 262 5,rB];simp[hc,Clm.V,AM];by_cases W:k <c.refs.length
 .obtain⟨r,U⟩:∃r,c.refs[k]?=some r:=⟨_,rW W⟩;have hw:=Bt k;have q:=(ih r (rY U)).fsp;have G:AV (k+1) 64=true:=by simp[AV];omega
  have hm:min k c.refs.length=k:=AE;have e:(c.refs.map (F.V ∘ Ak T)).take (k+1)=(c.refs.map (F.V ∘ Ak T)).take k++[(Ak T r).V]:=by rw[rx,rk,U];rfl
  rw[CF,AD];simp only[AB 262 7];generalize Ak T r=M at*;obtain⟨mo,mn,mi,mk⟩:=M;simp[F.V_eq]at q;simp[hc,Clm.V,AM,U];refine⟨_,_,q _,?_⟩;simp[AQ,AB 262 8,AD];simp only[AB 262 10];simp[hm,G];simp[AB 262 6,hw,W,e,F.V_eq]
 .have O:k=c.refs.length:=AE;subst O;rw[Bj,AN];have:=hQ;simp[rB]at this;have Z:(c.refs.map (F.V ∘ Ak T)).take c.refs.length=c.refs.map (F.V ∘ Ak T):=sN Ac;rw[Z];exact this _ _ rfl rfl rfl rfl
def RP{T:List Clm}{c:Clm}(hc:T[i]?=some c)(G:∀r∈c.refs,0<=r/\r <i):Ak T i=if c.refs=[] then c.body else .mk 4 0 [] [c.body,.mk 5 0 [] (c.refs.map (Ak T))]:=by
 have hi:=(rZ.1 hc).1;have N:=CW T;rw[MP hc];unfold B9;split
 .rfl
 .congr 3
  refine congrArg _ (uN λr J=>?_);have:=G r J;rw[Cn T i AE,List.getElem?_take_of_lt AE,rW AE];unfold Ak;rw[rW AE];rfl
def de(T:List Clm)(g:Nat)(U:MeanX T g):∀i:Nat,i <T.length->PX 262 [.list (T.map Clm.V),i] [(Ak T i).V,.bool (decide (A6 (Ak T i)=0))]:=by
 intro i;induction i using Nat.strongRecOn with
 |_ i ih=>
  intro hi;have hg:=U.hg;obtain⟨c,hc⟩:∃c,T[i]?=some c:=⟨_,rW hi⟩;have Z:=RP hc (U.low i c hc);have a2:=U.okAt (i:=i) ⟨AE,AE⟩;have a6:∀r∈c.refs,PX 262 [.list (T.map Clm.V),r] [(Ak T r).V,.bool true]:=by
   intro r hr;have h1:=U.low i c hc r hr;obtain⟨m,rfl⟩:∃m:Nat,r=m:=⟨r.toNat,AE⟩;have a1:m <g:=by
    by_cases N:g<=i
    .have:=(U.bad i c N hc).2.1 _ hr;omega
    .omega
   have:=ih m AE AE;rw[(U.good a1).2]at this;exact this
  have G:=λR4 Q=>gC T i c hc (U.refs c (rY hc)) R4 a6 Q;have O:=W5 _ a2;refine BS 262 ?_;simp only[Zw,As 262,AB 262 0,AB 262 1,Ad];by_cases W:c.refs=[]
  .have N:i <g:=by
    by_cases N:g<=i
    .exact absurd W (U.bad i c N hc).1
    .omega
   rw[(U.good N).2];rw[if_pos W]at Z;rw[Z];obtain⟨refs,op,n,ins,kids⟩:=c;simp only at W;subst W;simp[hc,Clm.V,AM];simp[AB 262 2,AA,AW 262,hc,Clm.V,F.V_eq,AQ,F.op,F.n,F.ins,F.kids,D.vs?,D.v?]
  .rw[if_neg W]at Z;generalize A6 (Ak T i)=EE at*;rw[Z]at O ⊢;generalize c.refs.map (Ak T)=M at*;simp[hc,Clm.V,AM,W,AD,AB 262 3,AQ,AB 262 4];simp only[rB]at G;simp at G;refine G _ _ ?_;intro e J f0 f1 f4 f6;refine⟨rfl,?_⟩;obtain⟨refs,op,n,ins,kids⟩:=c;simp only[F.V_eq,rq,sq]at O;simp only[Aa,AB 262 11];simp[f0,f1,f4,f6,hc,Clm.V,AM,AQ,F.op,F.n,F.ins,F.kids];simp only[AB 262 12];simp;refine⟨_,_,⟨rfl,rfl⟩,_,O,?_⟩;simp[AQ,AA,AW 262,F.V_eq,D.vs?,D.v?];rfl
def eM(T:List Clm)(g:Nat)(G:MeanX T g)(W:CB T=0)(i:Nat)(hi:i <T.length):PX 163 [(T.map Clm.V:V),i] [(Yi T i).V,((A6 (Ak T i):Int):V)]:=by
 refine BS 163 ?_;have J:=(dg T G.ok (by have:=G.len;omega) W i hi).fsp;have N:=(de T g G i hi).fsp;have U:A6 (Ak T i)=0\/A6 (Ak T i)=4:=by
  by_cases O:i <g
  .exact .inl (G.good O).2
  .exact .inr (G.large AE hi).2
 unfold Yi;generalize A6 (Ak T i)=Z at*;generalize Ak T i=M at*;obtain⟨op,n,ins,kids⟩:=M;rcases U with rfl|rfl
 .simp[F.V_eq]at J N;simp only[As 163,AH,AJ,AO,AB 163 0,AB 163 1,Ad];simp[F.V_eq];refine⟨_,_,J _,?_⟩;simp[AB 163 2,AD];simp only[AB 163 4];simp;refine⟨_,_,N _,?_⟩;simp[AQ,AB 163 5];simp[AB 163 7,AQ,AA,AW 163,D.vs?,D.v?]
 .simp[F.V_eq]at J N;simp only[As 163,AH,AJ,AO,AB 163 0,AB 163 1,Ad,ey];simp[F.V_eq];refine⟨_,_,J _,?_⟩;simp[AB 163 2,AD];simp only[AB 163 4];simp;refine⟨_,_,N _,?_⟩;simp[AQ,AB 163 5];simp[AB 163 6,AQ,AA,AW 163,D.vs?,D.v?]
end
def lK(l:List Int)(hl:l.length<=2^40)(n:Int):PX 260 [AM .i64 l,n] [.bool (l.any λx=>n==x)]:=by
 refine BS 260 ?_;obtain⟨R,J⟩:∃R,(l.any λx=>n==x)=R:=⟨_,rfl⟩;rw[J];simp only[As 260,AH,AJ,AY,AB 260 0,AB 260 1,Ad,AM];simp;refine Aw l.length (λk=>⟨[(0,.v (.list (l.map (.int .i64)))),(1,(n:D)),(5,(k:D))],[]⟩) (λk=>∀x∈l.take k,(n==x)=false) Ac Ac ?_;intro k hk W;simp only[Zw,BG 260 0,AB 260 2];simp;by_cases U:k <l.length
 .obtain⟨x,hx⟩:∃x,l[k]?=some x:=⟨_,rW U⟩;have O:=rY hx;have Z:=Bt k;rw[CF,AD];simp only[AB 260 4];simp[hx];by_cases G:x=n
  .have:R=true:=by rw[<-J,tX];exact⟨x,O,by simp[G]⟩
   simp[G,AA,AB 260 5,AW 260,this]
  .have bad:=IT (p:=λx=>n==x) hx W (by simpa using λh=>G h.symm);simp[G,AD,AB 260 3,Z,U];simpa using bad
 .have N:k=l.length:=AE;subst N;rw[Bj,AN];have:R=false:=by rw[<-J,tD];simpa using W
  simp[AA,AB 260 6,AW 260,this]
def mw(r:Rgt)(h1:r.claims.length<=2^30)(h2:r.bad.length<=2^40):PX 162 [r.V] [AM .i64 (Dz r)]:=by
 refine BS 162 ?_;unfold Dz;obtain⟨file,state,force,claims,dates,bad,owners,lics⟩:=r;simp only at h1 h2 ⊢;simp only[As 162,AH,AJ,AY,AB 162 0,AB 162 1,AB 162 2,Ad];simp[Rgt.V,Rgt.cs,AM];by_cases O:force=0
 .subst O;simp;refine Ab claims.length (λk=>⟨[(1,.R 0 0),(3,.W 3 1 ((((List.range k).map λ(i:Nat)=>(i:Int)).filter λi=> !(bad.any λx=>i==x)).map (.int .i64))),(4,(k:D))],
   [.cells ((Rgt.cs ⟨file,state,0,claims,dates,bad,owners,lics⟩).map .v)]⟩) (by simp[Rgt.cs,AM]) ?_
  intro k hk;simp only[Zw,BG 162 0,AB 162 3];by_cases J:k <claims.length
  .have hw:=Bt k;have q:=(lK bad h2 k).fsp;have N:(k:Int) <claims.length:=AE;have a1:(((List.range k).map λ(i:Nat)=>(i:Int)).filter λi=> !(bad.any λx=>i==x)).length<=k:=by have:=sZ (λi=> !(bad.any λx=>i==x)) ((List.range k).map λ(i:Nat)=>(i:Int));simpa using this
   have hs:(((List.range (k+1)).map λ(i:Nat)=>(i:Int)).filter λi=> !(bad.any λx=>i==x))=(((List.range k).map λ(i:Nat)=>(i:Int)).filter λi=> !(bad.any λx=>i==x))++(if (bad.any λx=>(k:Int)==x) then [] else [(k:Int)]):=by
    rw[tF,r9,tW]
    congr 1
    simp only[rq,sq,uR,ug];cases (bad.any λx=>(k:Int)==x)<;>rfl
   rw[hs];generalize (((List.range k).map λ(i:Nat)=>(i:Int)).filter λi=> !(bad.any λx=>i==x))=L at*;generalize (bad.any λx=>(k:Int)==x)=B at*;have G:AV (L.length+1) 8=true:=by simp[AV];omega
   simp[AM]at q;simp[Rgt.cs,AM,N,AD];simp only[AB 162 5];simp;refine⟨_,_,q _,?_⟩;simp only[AB 162 6];cases B with
   |true=>simp[AB 162 4,hw,J]
   |false=>simp[AB 162 7,G,AB 162 4,hw,J]
  .have W:k=claims.length:=AE;subst W;simp[Rgt.cs,AM,AN];simp[AA,AB 162 8,AW 162]
 .simp[O];refine Av ?_;simp only[Zw,BG 162 0,AB 162 3];have U:(force==0)=false:=by simpa using O
  by_cases Z:0 <claims.length
  .simp[Z,U,AN,AA,AB 162 8,AW 162]
  .simp[Z,AN,AA,AB 162 8,AW 162]
section
def ip(nc:Int)(t:Th)(rs:List Rgt):Int:=if IZ t≠0 then IZ t else if t.kinds nc||rs.all (λr=>(Dz r).isEmpty) then 0 else 7
def io(nc:Int)(I:Int->Int->Bool)(t:Th)(rs:List Rgt):List (Int×Int):=if ip nc t rs=0 then BX I t rs else []
variable {nc:Int}
def Rgt.fine.hld7{r:Rgt}(h:r.fine nc){i:Int}(hi:0<=i/\i <r.claims.length){t:Th}(N:IZ t=0)(G:t.kinds nc=false):Cq nc (Go.Va.Ak r.claims i) t=7:=by have J:=h.meanAt hi;unfold Cq;rw[(h.mean.mean _ J).2,N,G];simp
def PY(I:Int->Int->Bool)(t:Th)(r:Rgt):(CJ I t r).length<=r.claims.length:=by unfold CJ;rw[sD];exact sS (sZ _ _) (Fh r)
def HQ(I:Int->Int->Bool)(t:Th)(rs:List Rgt)(h:∀r∈rs,r.claims.length<=32):(BX I t rs).length<=32*rs.length:=by
 induction rs with
 |nil=>simp[BX]
 |cons r rs ih=>
  have G:=PY I t r;have h2:=h r Ac;have J:=ih λx hx=>h x (by simp[hx]);simp only[BX,r7,re,sF]at*;omega
end
open Go.Proofs
section
def BF(l:List Int):Int:=(l.find? λe=>decide (e≠0)).getD 0
def Ft(a b:List Int):BF (a++b)=if BF a=0 then BF b else BF a:=by
 unfold BF;rw[List.find?_append];cases h:a.find? λe=>decide (e≠0)with
 |none=>simp
 |some x=>
  have:x≠0:=by simpa using List.find?_some h
  simp[this]
def Rf(e:Int):BF [e]=e:=by unfold BF;by_cases h:e=0<;>simp[h]
def LG{l:List Int}(h:BF l=0)(e:Int):BF (l++[e])=e:=by rw[Ft,if_pos h,Rf]
def JB{a b:List Int}(h:BF a≠0):BF (a++b)=BF a:=by rw[Ft,if_neg h]
def FF(nc:Int)(t:Th)(r:Rgt):List Int:=(Dz r).map λi=>Cq nc (Ak r.claims i) t
def OE(nc:Int)(t:Th)(rs:List Rgt):Int:=if IZ t≠0 then IZ t else BF (rs.flatMap (FF nc t))
def Lx(nc:Int)(I:Int->Int->Bool)(t:Th)(rs:List Rgt):List (Int×Int):=if OE nc t rs=0 then BX I t rs else []
structure Rgt.fair (r:Rgt):Prop where
 bad:r.bad.length<=2^40
 mean:∃g,MeanX r.claims g
 z:CB r.claims=0
def Rgt.fair.len{r:Rgt}(h:r.fair):r.claims.length<=32:=h.mean.choose_spec.len
def Rgt.fair.okAt{r:Rgt}(h:r.fair){i:Int}(hi:0<=i/\i <r.claims.length):(Ak r.claims i).ok:=h.mean.choose_spec.okAt hi
def Rgt.fair.q163{r:Rgt}(h:r.fair)(i:Nat)(hi:i <r.claims.length):PX 163 [.list (r.claims.map Clm.V),.int .i64 i] [(Yi r.claims i).V,.int .i64 (A6 (Ak r.claims i))]:=
 eM r.claims _ h.mean.choose_spec h.z i hi
def Rgt.fair.q274{r:Rgt}(h:r.fair)(i:Nat)(hi:i <r.claims.length):PX 274 [.list (r.claims.map Clm.V),.int .i64 i] [(Yi r.claims i).V,.int .i64 (A6 (Ak r.claims i))]:=
 db r.claims _ i hi h.mean.choose_spec h.z
variable {nc:Int}
def Nu{f:F}{t:Th}(h:A6 f≠0):Cq nc f t=A6 f:=by unfold Cq;rw[if_pos h]
variable {pa:List V}
theorem oA{I:Int->Int->Bool}(hp:pa.length<=2^40)(hI:∀a b:Int,0<=a->a <pa.length->0<=b->b <pa.length->PX 311 [pa,a,b] [.bool (I a b)])(t:Th)(ht:t.ok)(hs:t.size<=2^40)(rs:List Rgt)(i:Nat)(r:Rgt)(hr:rs[i]?=some r)(hf:r.fair)(acc:List (Int×Int))(a8:acc.length+(Dz r).length<=2^40)(J:List Row)(Q:AExit->St->Prop)(hQ:BF (FF pa.length t r)=0->∀e J,AK e 0=(pa:D)->AK e 1=(rs.map Rgt.V:D)->AK e 5= .R 0 0->AK e 9= .W 186 2 ((acc++CJ I t r).map BY)->AK e 10=(i:D)->Q (.exit 2) ⟨e,.cells t.cells::J⟩)(Z:BF (FF pa.length t r)≠0->∀e J,AK e 6= .W 186 2 []->AK e 7=((BF (FF pa.length t r):Int):D)->Q .ret ⟨e,J⟩):
  AX (.loop (lG 73 1)) Q ⟨[(0,(pa:D)),(1,(rs.map Rgt.V:D)),(5,.R 0 0),(9,.W 186 2 (acc.map BY)),(10,(i:D)),(11,.v (AM .i64 (Dz r))),(12,((0:Int):D))],.cells t.cells::J⟩:=by
 obtain⟨G,U⟩:∃G,Dz r=G:=⟨_,rfl⟩;have b3:CJ I t r=(G.filter λx=>(Ak r.claims x).hold I t).map λx=>(r.file,x):=by unfold CJ;rw[U]
 have b0:FF pa.length t r=G.map λx=>Cq pa.length (Ak r.claims x) t:=by unfold FF;rw[U]
 rw[b3,b0]at hQ;rw[b0]at Z;have b1:=λx(hx:x∈G)=>Jj (r:=r) (i:=x) (by rw[U];exact hx);have b6:G.length<=r.claims.length:=by rw[<-U];exact Fh r
 have b9:=hf.len;rw[U]at a8 ⊢;refine Ag G.length (λk s=>BF ((G.take k).map λx=>Cq pa.length (Ak r.claims x) t)=0/\∃J,s=⟨[(0,(pa:D)),(1,(rs.map Rgt.V:D)),(5,.R 0 0),(9,.W 186 2 ((acc++((G.take k).filter λx=>(Ak r.claims x).hold I t).map λx=>(r.file,x)).map BY)),(10,(i:D)),(11,.v (AM .i64 G)),(12,(k:D))],.cells t.cells::J⟩) ⟨rfl,J,Ac⟩ ?_;rintro k s hk ⟨hz,J,rfl⟩;simp only[Zw,BG 73 1,AB 73 10,AM];by_cases h1:k <G.length
 .obtain⟨x,hx⟩:∃x,G[k]?=some x:=⟨_,rW h1⟩;have b2:=rY hx;have hw:=Bt k;obtain⟨m,rfl⟩:∃m:Nat,x=m:=⟨x.toNat,by have:=b1 x b2;omega⟩;have hm:=b1 _ b2;have q1:=hf.q163 m AE;have q2:=(eK hp hI (Ak r.claims m) (hf.okAt hm) t ht hs).fsp;have a6:BF ((G.take (k+1)).map λx=>Cq pa.length (Ak r.claims x) t)=Cq pa.length (Ak r.claims m) t:=by rw[rx,hx,r9];exact LG hz _
  have W:Cq pa.length (Ak r.claims m) t≠0->BF (G.map λx=>Cq pa.length (Ak r.claims x) t)=Cq pa.length (Ak r.claims m) t:=λh=>by
   have e:G.map (λx=>Cq pa.length (Ak r.claims x) t)=(G.take (k+1)).map (λx=>Cq pa.length (Ak r.claims x) t)++(G.drop (k+1)).map (λx=>Cq pa.length (Ak r.claims x) t):=by rw[<-r9,sa]
   rw[e,JB (by rw[a6];exact h),a6]
  have a7:(G.take (k+1)).filter (λx=>(Ak r.claims x).hold I t)=(G.take k).filter (λx=>(Ak r.claims x).hold I t)++(if (Ak r.claims m).hold I t then [(m:Int)] else []):=by
   rw[rx,hx,tW]
   congr 1
   simp only[Option.toList_some,uR,ug]
  have c0:((G.take k).filter λx=>(Ak r.claims x).hold I t).length<=k:=by have:=sZ (λx=>(Ak r.claims x).hold I t) (G.take k);rw[sJ]at this;omega
  have Z:=λh=>Z (by rw[W h];exact h);have b4:A6 (Ak r.claims m)≠0->Cq pa.length (Ak r.claims m) t=A6 (Ak r.claims m):=Nu;rw[a7,a6];generalize BF (G.map λx=>Cq pa.length (Ak r.claims x) t)=FN at*;generalize Cq pa.length (Ak r.claims m) t=HE at*;generalize (G.take k).filter (λx=>(Ak r.claims x).hold I t)=FL at*;generalize (Ak r.claims m).hold I t=B at*;unfold Yi at q1;generalize A6 (Ak r.claims m)=FE at*;generalize Ak r.claims m=M at*;have a2:AV (acc.length+FL.length+1) 16=true:=by simp[AV];omega
  by_cases N:FE=0
  .subst N;obtain⟨mo,mn,mi,mk⟩:=M;obtain⟨tc,tv,tp⟩:=t;simp only[F.V_eq,Th.V_eq,AM,if_true]at q1 q2;simp at q1 q2;simp[h1,AD];simp only[Aa,AB 73 12];simp[hr,hx,Rgt.V,Rgt.cs];refine⟨_,_,⟨rfl,rfl⟩,_,q1,?_⟩;simp[AQ];simp only[AB 73 13];simp;simp only[AB 73 15,Th.cells,Th.cs,Th.vs,Th.ps,AM];simp;refine⟨_,_,q2 _,?_⟩;by_cases O:HE=0
   .subst O;simp[AB 73 16,AB 73 18];cases B with
    |false=>
     simp[AB 73 11,hw]
    |true=>
     simp only[AB 73 19];simp[hr,hx,Rgt.V,Rgt.cs,a2,AQ];simp[AB 73 11,hw,BY]
   .have a1:=W O;subst a1;have Z:=Z O;simp[O,AB 73 16,AA,AB 73 17];exact Z _ _ rfl rfl
  .have O:=b4 N;subst O;have a1:=W N;subst a1;have Z:=Z N;rw[if_neg N]at q1;simp only[ey,F.V_eq]at q1;simp at q1;simp[h1,AD];simp only[Aa,AB 73 12];simp[hr,hx,Rgt.V,Rgt.cs];refine⟨_,_,⟨rfl,rfl⟩,_,q1,?_⟩;simp[AQ];simp only[AB 73 13];simp[N];simp[AA,AB 73 14];exact Z _ _ rfl rfl
 .have b5:k=G.length:=AE;subst b5;rw[sE]at hz ⊢;have hQ:=hQ hz;simp at hQ;simp[AN];exact hQ _ _ rfl rfl rfl rfl rfl
variable {k:Nat}
def Gj{α β:Type}(f:α->List β){l:List α}{x:α}(hx:l[k]?=some x):(l.take (k+1)).flatMap f=(l.take k).flatMap f++f x:=by rw[rx,hx,tU];simp
def Ny{α:Type}(f:α->List Int){l:List α}{x:α}(hx:l[k]?=some x)(G:BF ((l.take k).flatMap f)=0)(h:BF (f x)≠0):BF (l.flatMap f)=BF (f x):=by
 have e:l.flatMap f=(l.take (k+1)).flatMap f++(l.drop (k+1)).flatMap f:=by rw[<-tU,sa]
 have h2:BF ((l.take (k+1)).flatMap f)=BF (f x):=by rw[Gj f hx,Ft,if_pos G]
 rw[e,JB (by rw[h2];exact h),h2]
theorem jq{I:Int->Int->Bool}(hp:pa.length<=2^40)(hI:∀a b:Int,0<=a->a <pa.length->0<=b->b <pa.length->PX 311 [pa,a,b] [.bool (I a b)])(t:Th)(ht:t.ok)(hs:t.size<=2^40)(rs:List Rgt)(hn:rs.length<=2^20)(a7:∀r∈rs,r.fair):
  PX 73 [pa,(rs.map Rgt.V:V),t.V] [.list ((Lx pa.length I t rs).map BY),((OE pa.length t rs:Int):V)]:=by
 refine BS 73 ?_;unfold Lx;obtain⟨E,W⟩:∃E,OE pa.length t rs=E:=⟨_,rfl⟩;rw[W];unfold OE at W;have Z:=(ei t ht hs).fsp;have hA:=λa b=>oA hp hI t ht hs rs a b;simp only[Zw,As 73,AB 73 0,AB 73 1,Ad];by_cases a2:IZ t=0
 .rw[a2]at Z W;simp at W;obtain⟨G,O,N⟩:=t;simp only[Th.V_eq,AM]at Z;simp at Z;simp[Th.V_eq,AM];refine⟨_,_,Z _,?_⟩;simp[AB 73 2,AD,AB 73 4,AB 73 5];refine Ag rs.length (λk s=>BF ((rs.take k).flatMap (FF pa.length (.mk G O N)))=0/\∃J,s=⟨[(0,(pa:D)),(1,(rs.map Rgt.V:D)),(5,.R 0 0),(9,.W 186 2 ((BX I (.mk G O N) (rs.take k)).map BY)),(10,(k:D))],.cells (Th.mk G O N).cells::J⟩) ⟨rfl,[],by simp[BX,Th.cells,Th.cs,Th.vs,Th.ps,AM]⟩ ?_;rintro k s hk ⟨hz,J,rfl⟩;simp only[Zw,BG 73 0,AB 73 6];by_cases h1:k <rs.length
  .obtain⟨r,hr⟩:∃r,rs[k]?=some r:=⟨_,rW h1⟩;have b4:=rY hr;have hf:=a7 r b4;have hw:=Bt k;have q2:=(mw r (by have:=hf.len;omega) hf.bad).fsp;have b5:=Fh r;have b6:=hf.len;have a1:BX I (.mk G O N) (rs.take (k+1))=BX I (.mk G O N) (rs.take k)++CJ I (.mk G O N) r:=Gj _ hr;have b1:BF ((rs.take (k+1)).flatMap (FF pa.length (.mk G O N)))=BF (FF pa.length (.mk G O N) r):=by rw[Gj _ hr,Ft,if_pos hz]
   have a6:=Ny (FF pa.length (.mk G O N)) hr hz;rw[W]at a6;have b0:=HQ I (.mk G O N) (rs.take k) λx hx=>(a7 x (s9 hx)).len;rw[sJ]at b0;have U:=λJ Q=>hA k r hr hf (BX I (.mk G O N) (rs.take k)) AE J Q;rw[a1,b1];generalize BF (FF pa.length (.mk G O N) r)=FR at*;generalize BX I (.mk G O N) (rs.take k)=acc at*;generalize CJ I (.mk G O N) r=ag at*;simp only[Rgt.V,Rgt.cs,AM]at q2 U;simp at q2;simp[h1,AD];simp only[AB 73 8];simp[hr,Rgt.V,Rgt.cs,AM];refine⟨_,_,q2 _,?_⟩;simp[AB 73 9];refine U _ _ ?_ ?_
   .rintro h0 e J f0 f1 f5 f9 f10;simp[AB 73 7,f0,f1,f5,f9,f10,hw,h0]
   .intro h0 e J f6 f7;have a8:=a6 h0;rw[<-a8]at f7 h0;simp[AW 73,f6,f7,h0]
  .have b2:k=rs.length:=AE;subst b2;rw[sE]at hz ⊢;rw[hz]at W;subst W;simp[AN,AB 73 20,AA,AW 73]
 .rw[if_pos (by simpa using a2)]at W;rw[W]at Z;have b3:¬E=0:=by rw[<-W];exact a2
  obtain⟨G,O,N⟩:=t;simp only[Th.V_eq,AM]at Z;simp at Z;simp[Th.V_eq,AM];refine⟨_,_,Z _,?_⟩;simp[AB 73 2,b3,AB 73 3,AA,AW 73]
variable {ps:List V}
theorem gK{bs:List Bool}(c6:ps.length<=64)(c0:bs.length=4096)(h:List Row)(x:Nat)(hx:h[x]?=some (Dw ps bs))(hl:Low h)(t:Th)(ht:t.ok)(r:Rgt)(hr:r.fair)(O:List (Int×Int))(hO:O.length<=2^20)(v24 v25 v26:V)(J:List Row)(hJ:Lows J)(a2:Nat)(b3:(h++ .cells t.cells::J)[a2]?=some (.cells (r.cs.map .v)))(Q:AExit->St->Prop)(hQ:BF (FF ps.length t r)=0->∀e J',Lows J'->AK e 0= .R x 0->AK e 5= .R h.length 0->AK e 9= .W 76 2 ((O++CJ (Cj ps.length bs) t r).map BY)->AK e 24= .v v24->AK e 25= .v v25->AK e 26= .v v26->Q (.exit 2) ⟨e,h++ .cells t.cells::J'⟩)(hR:BF (FF ps.length t r)≠0->∀e J',AK e 6= .W 76 2 []->AK e 7=((BF (FF ps.length t r):Int):D)->Q .ret ⟨e,h++J'⟩):
  AX (.loop (lG 185 1)) Q ⟨[(0,.R x 0),(5,.R h.length 0),(9,.W 76 2 (O.map BY)),(11,.R a2 0),(24,.v v24),(25,.v v25),(26,.v v26),(31,.v (AM .i64 (Dz r))),(32,.v (.int .i64 (Dz r).length)),(33,((0:Nat):D))],h++ .cells t.cells::J⟩:=by
 obtain⟨S,hS⟩:∃S,Dz r=S:=⟨_,rfl⟩;have b9:CJ (Cj ps.length bs) t r=(S.filter λx=>(Ak r.claims x).hold (Cj ps.length bs) t).map λx=>(r.file,x):=by unfold CJ;rw[hS]
 have b4:FF ps.length t r=S.map λx=>Cq ps.length (Ak r.claims x) t:=by unfold FF;rw[hS]
 rw[b9,b4]at hQ;rw[b4]at hR;have c5:=λx(hx:x∈S)=>Jj (r:=r) (i:=x) (by rw[hS];exact hx);have c9:S.length<=r.claims.length:=by rw[<-hS];exact Fh r
 have c8:=hr.len;rw[hS];refine Ag S.length (λk s=>BF ((S.take k).map λx=>Cq ps.length (Ak r.claims x) t)=0/\∃J',Lows J'/\s=⟨[(0,.R x 0),(5,.R h.length 0),(9,.W 76 2 ((O++((S.take k).filter λi=>(Ak r.claims i).hold (Cj ps.length bs) t).map λi=>(r.file,i)).map BY)),(11,.R a2 0),(24,.v v24),(25,.v v25),(26,.v v26),(31,.v (AM .i64 S)),(32,(S.length:D)),(33,(k:D))],
   h++ .cells t.cells::(J++J')⟩) ⟨rfl,[],Lows.nil,Ac⟩ ?_
 rintro k s hk ⟨hz,J',a6,rfl⟩;simp only[Zw,BG 185 1,AB 185 11];simp[AM];by_cases b0:k <S.length
 .obtain⟨i,hi⟩:∃i,S[k]?=some i:=⟨_,rW b0⟩;have c3:=c5 i (rY hi);obtain⟨m,rfl⟩:∃m:Nat,i=m:=⟨i.toNat,AE⟩;have w1:=Bt k;have a8:S.take (k+1)=S.take k++[(m:Int)]:=by rw[rx,hi];rfl
  have Bz:∀Z,(h++ .cells t.cells::(J++Z))[a2]?=some (.cells (r.cs.map .v)):=λZ=>by have:=AU Z b3;simpa using this
  have q1:=(hr.q274 m AE).fsp;have q2:=λ(Z:List Row)(hZ:Lows Z)=>pt c6 c0 (Ak r.claims m) (hr.okAt c3) t ht (h++ .cells t.cells::(J++Z)) x (AU _ hx) (hl.lows (by
   intro row G n;rcases rj.1 G with rfl|G
   .exact LA n t
   .rcases rp.1 G with G|G
    .exact hJ row G n
    .exact hZ row G n))
  have a7:BF ((S.take (k+1)).map λx=>Cq ps.length (Ak r.claims x) t)=Cq ps.length (Ak r.claims m) t:=by rw[a8,r9];exact LG hz _
  have a1:Cq ps.length (Ak r.claims m) t≠0->BF (S.map λx=>Cq ps.length (Ak r.claims x) t)=Cq ps.length (Ak r.claims m) t:=λh=>by
   have e:S.map (λx=>Cq ps.length (Ak r.claims x) t)=(S.take (k+1)).map (λx=>Cq ps.length (Ak r.claims x) t)++(S.drop (k+1)).map (λx=>Cq ps.length (Ak r.claims x) t):=by rw[<-r9,sa]
   rw[e,JB (by rw[a7];exact h),a7]
  have c7:((S.take k).filter λi=>(Ak r.claims i).hold (Cj ps.length bs) t).length<=k:=by have:=sZ (λi=>(Ak r.claims i).hold (Cj ps.length bs) t) (S.take k);rw[sJ]at this;omega
  have c2:((S.take (k+1)).filter λi=>(Ak r.claims i).hold (Cj ps.length bs) t)=((S.take k).filter λi=>(Ak r.claims i).hold (Cj ps.length bs) t)++(if (Ak r.claims m).hold (Cj ps.length bs) t then [(m:Int)] else []):=by rw[a8,tW,uR,ug]
  have hR:=λh=>hR (by rw[a1 h];exact h);have c1:A6 (Ak r.claims m)≠0->Cq ps.length (Ak r.claims m) t=A6 (Ak r.claims m):=Nu;rw[sQ]at a7;rw[c2,a7];generalize BF (S.map λx=>Cq ps.length (Ak r.claims x) t)=FN at*;generalize Cq ps.length (Ak r.claims m) t=HE at*;generalize ((S.take k).filter λi=>(Ak r.claims i).hold (Cj ps.length bs) t)=L at*;generalize (Ak r.claims m).hold (Cj ps.length bs) t=B at*;unfold Yi at q1;generalize A6 (Ak r.claims m)=FE at*;generalize Ak r.claims m=f at*;have b2:AV (O.length+L.length+1) 16=true:=by simp[AV];omega
  by_cases U:FE=0
  .subst U;rw[if_pos rfl]at q1;have N:∀n,Row.low n (.cells f.cells)=true:=λn=>Nr n f;obtain⟨fo,fn,fi,fk⟩:=f;obtain⟨cs,vs,pa⟩:=t;obtain⟨file,state,force,claims,dates,bad,owners,lics⟩:=r;simp only[F.cells,F.op,F.n,F.ins,F.kids,F.V_eq,Th.cells,Th.cs,Th.vs,Th.ps,Th.V_eq,Rgt.cs,AM]at*;simp at q1 Bz;have b5:=q2 _ (a6.app N)
   try simp at b5
   rw[CF,AD];simp only[AB 185 12];simp[hi];simp only[AB 185 13];simp[Bz];refine⟨_,_,q1 _,?_⟩;simp[AQ,AB 185 14,AD];simp only[AB 185 16];simp;refine⟨_,_,b5,?_⟩;by_cases W:HE=0
   .subst W;simp[AB 185 17,AB 185 19];cases B with
    |false=>
     simp[AB 185 21,w1,b0];exact a6.app N
    |true=>
     simp[AB 185 20,Bz,b2,AB 185 21,w1,b0,BY,AQ];exact a6.app N
   .have b1:=a1 W;subst b1;have hR:=hR W;simp[W,AB 185 17,AB 185 18,AA];exact hR _ _ rfl rfl
  .have W:=c1 U;subst W;have b1:=a1 U;subst b1;have hR:=hR U;rw[if_neg U]at q1;obtain⟨file,state,force,claims,dates,bad,owners,lics⟩:=r;simp only[ey,F.V_eq,Rgt.cs,AM]at*;simp at q1 Bz;rw[CF,AD];simp only[AB 185 12];simp[hi];simp only[AB 185 13];simp[Bz];refine⟨_,_,q1 _,?_⟩;simp[U,AQ,AB 185 14];simp[AB 185 15,AA];exact hR _ _ rfl rfl
 .have c4:k=S.length:=AE;subst c4;rw[Bj,AN];have b6:Lows (J++J'):=by
   intro row G n;rcases rp.1 G with G|G
   .exact hJ row G n
   .exact a6 row G n
  rw[sE]at hz ⊢;exact hQ hz _ _ b6 rfl rfl Ac rfl rfl rfl
theorem Yf{bs:List Bool}(c7:ps.length<=64)(c1:bs.length=4096)(h:List Row)(x:Nat)(hx:h[x]?=some (Dw ps bs))(hl:Low h)(t:Th)(ht:t.ok)(rs:List Rgt)(hr:∀r∈rs,r.fair)(d3:rs.length<=2^10):
  FX 185 [.R x 0,(rs.map Rgt.V:D),.v t.V] h [.W 76 2 ((Lx ps.length (Cj ps.length bs) t rs).map BY),((OE ps.length t rs:Int):D)] h:=by
 refine At (D6 185) rfl (ri _) hl (by simp[D.lt]) ?_;unfold Lx;obtain⟨E,Z⟩:∃E,OE ps.length t rs=E:=⟨_,rfl⟩;rw[Z];unfold OE at Z;have G:=(pg t ht).fsp;have a6:t.V= .agg [AM .i64 t.cs,(t.vs.map Val.V:V),(t.ps.map Th.V:V)]:=by obtain⟨a,b,c⟩:=t;exact Th.V_eq ..
 by_cases a2:IZ t=0
 .rw[a2]at G Z;simp at Z;have N:∀(Q:AExit->St->Prop),(E=0->∀e W,AK e 9= .W 76 2 ((BX (Cj ps.length bs) t rs).map BY)->Q (.exit 0) ⟨e,h++ .cells t.cells::W⟩)->(E≠0->∀e W,AK e 6= .W 76 2 []->AK e 7= .v (.int .i64 E)->Q .ret ⟨e,h++W⟩)->
    AX (.loop (lG 185 0)) Q ⟨[(0,.R x 0),(5,.R h.length 0),(9,.W 76 2 []),(24,(rs.map Rgt.V:D)),(25,(rs.length:D)),(26,((0:Nat):D))],h++[.cells t.cells]⟩:=by
   intro Q hQ hR;clear G a6;refine Ag rs.length (λk s=>BF ((rs.take k).flatMap (FF ps.length t))=0/\∃W,Lows W/\s=⟨[(0,.R x 0),(5,.R h.length 0),(9,.W 76 2 ((BX (Cj ps.length bs) t (rs.take k)).map BY)),(24,(rs.map Rgt.V:D)),(25,(rs.length:D)),(26,(k:D))],
     h++ .cells t.cells::W⟩) ⟨rfl,[],Lows.nil,by simp[BX]⟩ ?_
   rintro k s hk ⟨hz,W,b6,rfl⟩;rw[T4];simp only[Zw,AB 185 8];simp;by_cases b0:k <rs.length
   .obtain⟨r,U⟩:∃r,rs[k]?=some r:=⟨_,rW b0⟩;have c8:=rY U;have a1:=hr r c8;have w1:=Bt k;have c2:BX (Cj ps.length bs) t (rs.take (k+1))=BX (Cj ps.length bs) t (rs.take k)++CJ (Cj ps.length bs) t r:=Gj _ U;have c3:BF ((rs.take (k+1)).flatMap (FF ps.length t))=BF (FF ps.length t r):=by rw[Gj _ U,Ft,if_pos hz]
    have a8:=Ny (FF ps.length t) U hz;rw[Z]at a8;have c0:=HQ (Cj ps.length bs) t (rs.take k) λy hy=>(hr y (s9 hy)).len;rw[sJ]at c0;have d2:=a1.len;have q1:=(lC r AE a1.bad).fsp;have c5:=Fh r;have a7:∀n,Row.low n (.cells (r.cs.map .v))=true:=λn=>by simp only[Row.low];exact Ji _
    have b1:=λQ=>gK c7 c1 h x hx hl t ht r a1 (BX (Cj ps.length bs) t (rs.take k)) AE (rs.map Rgt.V:V) (rs.length:V) (k:V) (W++[.cells (r.cs.map .v)]) (b6.app a7) (h.length+(W.length+1)) Ac Q;rw[c2,c3];generalize BF (FF ps.length t r)=FR at*;generalize CJ (Cj ps.length bs) t r=AG at*;generalize BX (Cj ps.length bs) t (rs.take k)=O at*;rw[CF,AD];simp only[AB 185 9];generalize c9:Dz r=LR at*;obtain⟨file,state,force,claims,dates,bad,owners,lics⟩:=r;simp only[Rgt.V,Rgt.cs,AM]at*;simp at q1;simp[U,Rgt.V,Rgt.cs,AM,AQ];unfold ZH;simp only[AH,AJ,AY,AB 185 10];simp;refine⟨_,_,q1 _,?_⟩;simp;simp at b1;refine b1 _ ?_ ?_
    .intro h0 e J2 b9 g0 g5 g9 b2 b3 b4;simp[AB 185 22,g0,g5,g9,b2,b3,b4,w1,b0,h0];exact b9
    .intro h0 e J2 g6 g7;have b5:=a8 h0;rw[<-b5]at g7 h0;exact hR h0 e J2 g6 g7
   .have c4:k=rs.length:=AE;subst c4;rw[Bj,AN,sE];rw[sE]at hz;exact hQ (by rw[<-Z];exact hz) _ _ rfl
  rw[a6]at G ⊢;generalize BX (Cj ps.length bs) t rs=AL at*;simp only[Th.cells]at N;simp[AM]at G N;simp only[Zw,As 185,AB 185 0,AB 185 1,AZ];simp[AM,AD,AB 185 3];refine⟨_,_,G _,?_⟩;simp[AB 185 4,AB 185 6,AB 185 7];refine N _ ?_ ?_
  .rintro rfl e J g9;simp[AB 185 23,g9,AA,AW 185]
  .intro h0 e J g6 g7;simp[AW 185,g6,g7,h0]
 .rw[if_pos (by simpa using a2)]at Z;have c6:¬E=0:=by rw[<-Z];exact a2
  rw[Z]at G;rw[a6]at G ⊢;simp[AM]at G;simp only[Zw,As 185,AB 185 0,AB 185 1,AZ];simp[AM,AD,AB 185 3];refine⟨_,_,G _,?_⟩;simp[c6,AB 185 4,AB 185 5,AA,AW 185]
end
def It(k:Int):Clm:=⟨[k],.mk 0 0 [] []⟩
def VC:FP 1 1 (.mk 0 0 [] []):=by
 refine⟨λg hg=>?_,by rw[F.size_eq];simp,by simp[F.depth,F.depths]⟩;rw[F.nodes_eq]at hg;have:g= .mk 0 0 [] []:=by simpa using hg
 subst this;refine⟨⟨by simp[F.op,i64],by simp[F.n,i64],by simp[F.ins],by simp[F.ins]⟩,by simp[BC,F.op,F.n,F.ins,F.kids],by simp[Hi,F.op]⟩
def av(k:Int):CP (It k):=by
 have G:(It k).body.tops=[.mk 0 0 [] []]:=by show F.tops (.mk 0 0 [] [])=_;rw[F.tops_eq,if_neg Ah]
 refine⟨by simp[It],VC.mono Ah Ah,by rw[G];simp,?_⟩;rw[G];intro p J;rw[rm.1 J];exact VC.mono Ah Ah
structure CsQ (T:List Clm):Prop where
 n:T.length<=5
 cp:∀c∈T,CP c
 low:∀(k:Nat)(c:Clm),T[k]?=some c->∀r∈c.refs,0<=r/\r <(k:Int)
 z:CB T=0
 tiny:∀c∈T,c.tiny
 ex:∀(k:Nat)(c:Clm),3<=k->T[k]?=some c->∃r,r <3/\c=It r/\∀(j:Nat)(d:Clm),3<=j->T[j]?=some d->d=c
def CsQ.meanX{T:List Clm}(h:CsQ T):∃g,MeanX T g:=by
 have hC:=QG T h.cp h.low;have hs:∀k,k<=2->sB k<=55:=λk G=>by have:=Pq G;have e2:sB 2=55:=Ah;omega
 have a2:∀c∈T,Clm.ok c:=λc hc=>(h.tiny c hc).ok;have a6:∀c∈T,c.refs.length<=8:=λc hc=>by have:=(h.cp c hc).lr;omega
 have a7:∀(k:Nat)(c:Clm),k<=2->T[k]?=some c->(B9 (Ax (T.take k)) c).ok/\A6 (B9 (Ax (T.take k)) c)=0:=λk c G hc=>by have h1:=(hC k c hc).ok (by have:=hs k G;omega) AE;exact⟨h1.1,h1.2.1⟩
 have N:∀(k:Nat)(f:F),(Ax T)[k]?=some f->∃c,T[k]?=some c/\f=B9 (Ax (T.take k)) c:=λk f J=>by
  have b4:k <T.length:=by rw[<-CW T];exact(rZ.1 J).1
  obtain⟨c,a8⟩:∃c,T[k]?=some c:=⟨_,rW b4⟩;refine⟨c,a8,?_⟩;have h2:(Ax T)[k]?=some (B9 (Ax (T.take k)) c):=by
   have e1:(Ax (T.take (k+1)))[k]?=some (B9 (Ax (T.take k)) c):=by
    rw[Fo T a8];have:(Ax (T.take k)).length=k:=by rw[CW,sJ];omega
    rw[sO AE,this,uD];rfl
   rw[Cn T (k+1) AE,sP,CF]at e1;exact e1
  rw[J]at h2;exact tR h2
 have hn:=h.n;by_cases h3:T.length<=3
 .refine⟨T.length,AE,a2,a6,h.low,ri _,?_,λk c G hc=>by have:=(rZ.1 hc).1;omega⟩;rw[sE];intro f J;obtain⟨k,G⟩:=tK.1 J;obtain⟨c,hc,rfl⟩:=N k f G;exact a7 k c (by have:=(rZ.1 hc).1;omega) hc
 .obtain⟨O,Z⟩:∃c,T[3]?=some c:=⟨_,rW AE⟩;obtain⟨r,hr,he,U⟩:=h.ex 3 O (ri _) Z;have b5:0<=r:=(h.low 3 O Z r (by rw[he];simp[It])).1;have hm:∀(k:Nat)(c:Clm),3<=k->T[k]?=some c->B9 (Ax (T.take k)) c=B9 (Ax (T.take 3)) O:=λk c G hc=>by
   rw[U k c G hc];exact Nq G (by have:=(rZ.1 hc).1;omega) λx hx=>by rw[he]at hx;simp[It]at hx;subst hx;omega
  have b0:=hC 3 O Z;have b6:(B9 (Ax (T.take 3)) O).size<=60:=by
   obtain⟨f,J⟩:∃f,(Ax (T.take 3))[r.toNat]?=some f:=⟨_,rW (by rw[CW,sJ];omega)⟩;have b1:(Ax T)[r.toNat]?=some f:=by rw[Cn T 3 AE,List.getElem?_take_of_lt AE]at J;exact J
   obtain⟨c,hc,b2⟩:=N _ f b1;have h1:=(hC _ c hc).sz;rw[<-b2]at h1;have h2:=hs r.toNat AE;rw[he];unfold B9 It;rw[if_neg Ac,F.size_eq];simp only[rq,sq,tV,List.sum_nil,F.size_eq,J,sA];omega
  have W:(B9 (Ax (T.take 3)) O).ok:=⟨λg hg=>(b0.nd g hg).1,AE⟩;have hE:A6 (B9 (Ax (T.take 3)) O)=0\/A6 (B9 (Ax (T.take 3)) O)=4:=by
   unfold A6;split
   .exact .inr rfl
   .rw[if_pos (ry.2 λg hg=>(b0.nd g hg).2.1)];exact .inl rfl
  rcases hE with hE|hE
  .refine⟨T.length,AE,a2,a6,h.low,ri _,?_,λk c G hc=>by have:=(rZ.1 hc).1;omega⟩;rw[sE];intro f J;obtain⟨k,G⟩:=tK.1 J;obtain⟨c,hc,rfl⟩:=N k f G;by_cases b3:k<=2
   .exact a7 k c b3 hc
   .rw[hm k c AE hc];exact⟨W,hE⟩
  .refine⟨3,AE,a2,a6,h.low,AE,?_,?_⟩
   .intro f J;rw[Cn T 3 AE]at J;obtain⟨k,G⟩:=tK.1 J;rw[sP]at G;split at G
    .obtain⟨c,hc,rfl⟩:=N k f G;exact a7 k c AE hc
    .cases G
   .intro k c G hc;have a1:=U k c G hc;refine⟨by rw[a1,he];simp[It],λx hx=>?_,?_⟩
    .rw[a1,he]at hx;simp[It]at hx;omega
    .rw[a1];exact⟨W,hE⟩
def CsQ.fair{r:Rgt}(h:CsQ r.claims)(G:r.bad.length<=2^40):r.fair:=⟨G,h.meanX,h.z⟩
def CsQ.altC{T:List Clm}(h:CsQ T)(k:Nat)(c:Clm)(hc:T[k]?=some c):(Ff (CG (T.take k)) c).length<=32/\∀f∈Ff (CG (T.take k)) c,AP 15 f:=by
 have hk:=(rZ.1 hc).1;have hn:=h.n;have J:=YB T h.cp h.low;have e2:lB 2=32:=Ah;obtain⟨h1,h2⟩:=J k c hc;refine⟨?_,λf U=>(h2 f U).mono AE⟩;by_cases G:k<=2
 .have:=Sf G;omega
 .obtain⟨r,hr,N,_⟩:=h.ex k c AE hc;have W:0<=r:=(h.low k c hc r (by rw[N];simp[It])).1;obtain⟨d,hd⟩:∃d,T[r.toNat]?=some d:=⟨_,rW AE⟩;have O:=KG T hd k AE AE;have h4:=(J _ d hd).1;have h5:lB r.toNat<=lB 2:=Sf AE;have Z:(It r).body.tops=[.mk 0 0 [] []]:=by show F.tops (.mk 0 0 [] [])=_;rw[F.tops_eq,if_neg Ah]
  rw[N];unfold Go.Va.Ff;rw[if_neg (by simp[It]),Z];show (List.flatMap _ [r]).length<=32;simp only[r7,uO,sk,O,sA,rq,sq];have h6:=GE (λa=>[Go.Va.mkA a (.mk 0 0 [] [])]) 1 (Go.Va.Ff (CG (T.take r.toNat)) d) (λa _=>Ac);omega
def CsQ.altOK{T:List Clm}(h:CsQ T):AltOK T:=by
 refine⟨by have:=h.n;omega,λc hc=>?_,h.low,?_,?_,?_⟩
 .have G:=h.cp c hc;exact⟨(G.body.ok Ah Ah).1,by have:=G.nt;omega,by have:=G.lr;omega⟩
 .intro k c J r U a ha b hb;have W:c.refs≠[]:=λe=>by rw[e]at U;cases U
  have O:mkA a b∈Go.Va.Ff (CG (T.take k)) c:=by unfold Go.Va.Ff;rw[if_neg W];exact sj.2 ⟨r,U,sj.2 ⟨a,ha,rl.2 ⟨b,hb,rfl⟩⟩⟩
  have h2:=(h.altC k c J).2 _ O;have:=h2.all.ok AE AE;exact⟨this.1,this.2.1⟩
 .intro k c J j hj;by_cases W:c.refs=[]
  .simp[W]
  .have h1:=(h.altC k c J).1;have e:Go.Va.Ff (CG (T.take k)) c=c.refs.flatMap λr=>(((CG (T.take k))[r.toNat]?).getD []).flatMap λa=>c.body.tops.map λb=>mkA a b:=by unfold Go.Va.Ff;rw[if_neg W]
   rw[e]at h1;have a2:((c.refs.take j).flatMap λr=>(((CG (T.take k))[r.toNat]?).getD []).flatMap λa=>c.body.tops.map (mkA a)).length<=(c.refs.flatMap λr=>(((CG (T.take k))[r.toNat]?).getD []).flatMap λa=>c.body.tops.map λb=>mkA a b).length:=by
    conv=>rhs;rw[<-sa j c.refs,tU,re]
    exact Nat.le_add_right _ _
   omega
 .intro k c J r U;have a6:=h.low k c J r U;have a1:=(rZ.1 J).1;obtain⟨Z,N⟩:∃Z,T[r.toNat]?=some Z:=⟨_,rW AE⟩;have h2:=KG T N k AE AE;rw[h2,sA];have h1:=(h.altC r.toNat Z N).1;omega
def CsQ.alts{T:List Clm}(h:CsQ T)(k:Nat)(N:k <T.length):YG 6 (CV T k):=by
 obtain⟨c,G⟩:∃c,T[k]?=some c:=⟨_,rW N⟩;obtain⟨U,h2⟩:=h.altC k c G;have J:=KG T G T.length N (ri _);rw[sE]at J;have e:CV T k=Go.Va.Ff (CG (T.take k)) c:=by unfold CV;rw[tu,J];rfl
 rw[e];exact⟨AE,λf O=>(h2 f O).all.ok AE AE⟩
def CsQ.of{T:List Clm}(h:CsP T):CsQ T:=⟨by have:=h.n;omega,h.cp,h.low,h.z,h.tiny,λk c G hc=>by have:=(rZ.1 hc).1;have:=h.n;omega⟩
theorem M5(r:Rgt)(h b:Int):(Ds r h b).claims=r.claims\/(Ds r h b).claims=r.claims++[It b]:=by
 unfold Ds;simp only
 repeat' split
 all_goals first
  |exact .inl rfl
  |exact .inr rfl
def Qd{k:Int}(h:i64 k):(It k).tiny:=⟨by simpa[It]using h,by simp[It],(Fg (m:=0) (by simp[i64]) Ac).mono Ac⟩
def CsQ.ext{G E:List Clm}(h:CsP G){b U:Int}(hb:i64 b)(a7:i64 U)(h2:0<=b->b <3->U=b)(hE:E=[]\/E=[It b]\/E=[It U]\/E=[It b,It U])(hz:CB (G++E)=0):CsQ (G++E):=by
 have a8:=h.n;have a1:∀c∈E,c=It b\/c=It U:=λc hc=>by
  rcases hE with rfl|rfl|rfl|rfl<;>simp at hc
  .exact .inl hc
  .exact .inr hc
  .exact hc
 have O:∀(k:Nat)(c:Clm),(G++E)[k]?=some c->∀r∈c.refs,0<=r/\r <(k:Int):=λk c hk=>Px (Mn hz hk).1;have a2:∀(k:Nat)(c:Clm),3<=k->(G++E)[k]?=some c->E[k-G.length]?=some c:=λk c hk hc=>by rw[sO AE]at hc;exact hc
 have N:∀c,E[0]?=some c->∀r∈c.refs,0<=r/\r <3:=λc hc r hr=>by have:=O G.length c (by rw[sO (ri _),uD];exact hc) r hr;omega
 refine⟨?_,λc hc=>?_,O,hz,λc hc=>?_,λk c hk hc=>?_⟩
 .rcases hE with rfl|rfl|rfl|rfl<;>simp<;>omega
 .rcases rp.1 hc with hc|hc
  .exact h.cp c hc
  .rcases a1 c hc with rfl|rfl<;>exact av _
 .rcases rp.1 hc with hc|hc
  .exact h.tiny c hc
  .rcases a1 c hc with rfl|rfl
   .exact Qd hb
   .exact Qd a7
 .have Z:=rY (a2 k c hk hc);have a6:∃r,r <3/\∀d∈E,d=It r:=by
   rcases hE with rfl|rfl|rfl|rfl
   .cases Z
   .exact⟨b,(N _ rfl b (by simp[It])).2,Ac⟩
   .exact⟨U,(N _ rfl U (by simp[It])).2,Ac⟩
   .have W:=N _ rfl b (by simp[It]);refine⟨b,W.2,?_⟩;rw[h2 W.1 W.2];simp
  obtain⟨r,hr,J⟩:=a6;exact⟨r,hr,J c Z,λj d hj hd=>by rw[J d (rY (a2 j d hj hd)),J c Z]⟩
def Xz{b:Int}(G:0<=b)(J:b <3):Af b 9=b:=by unfold Af;rw[Bj,Int.tmod_eq_of_lt G AE]
def dL(f:F):PX 335 [f.V] [.list ((BU f).map F.V)]:=by refine BS 335 ?_;unfold BU;obtain⟨op,n,ins,kids⟩:=f;by_cases h:op=4<;>simp[As 335,awp,AB 335 0,AB 335 1,AB 335 2,AB 335 3,AW 335,Ad,F.V_eq,h,F.op,F.kids]
def cY(f:F):f.tops.length<=f.size:=by
 induction f using F.ind with
 |h op n ins kids ih=>
  rw[F.tops_eq,F.size_eq];split
  .rw[s8];have:∀l:List F,(∀k∈l,k.tops.length<=k.size)->(l.map λk=>k.tops.length).sum<=(l.map F.size).sum:=by
    intro l;induction l with
    |nil=>simp
    |cons x xs ihx=>intro h;have J:=h x Ac;have h2:=ihx λk G=>h k (by simp[G]);simp only[rq,tV];omega
   have:=this kids ih;omega
  .simp
def kC:∀f:F,f.ok->PX 334 [f.V] [(f.tops.map F.V:V)]:=by
 refine F.ind λop n ins kids ih N=>?_;refine BS 334 ?_;have a1:=N.2;rw[F.size_eq]at a1;have a2:=F.kids_len kids;have O:=cY (.mk op n ins kids);rw[F.tops_eq,F.size_eq]at O;rw[F.tops_eq];simp only[Zw,As 334,AB 334 0,AB 334 1,Ad];by_cases W:op=5
 .subst W;rw[if_pos rfl]at O ⊢;simp[F.V_eq,AD,AB 334 3,AB 334 4];refine Ab kids.length (λk=>⟨[(1,.R 0 0),(3,.W 84 4 (((kids.take k).flatMap F.tops).map F.V)),(4,(k:D))],[.cells (F.mk 5 n ins kids).cells]⟩) (by simp[F.cells,F.op,F.n,F.ins,F.kids]) ?_;intro k hk;simp only[Zw,BG 334 0,AB 334 5,F.cells,F.op,F.n,F.ins,F.kids];by_cases h1:k <kids.length
  .obtain⟨x,hx⟩:∃x,kids[k]?=some x:=⟨_,rW h1⟩;have U:=rY hx;have hw:=Bt k;have q:=(ih x U (F.ok_kid N U)).fsp;have ht:(kids.take (k+1)).flatMap F.tops=(kids.take k).flatMap F.tops++x.tops:=by rw[rx,hx,tU];simp
   have J:((kids.take (k+1)).flatMap F.tops).length<=(kids.flatMap F.tops).length:=by have:=congrArg (λl=>(l.flatMap F.tops).length) (sa (k+1) kids);simp only[tU,re]at this;omega
   rw[ht]at J ⊢;rw[re]at J;generalize (kids.take k).flatMap F.tops=L at*;generalize x.tops=X at*;have G:AV (L.length+X.length) 64=true:=by simp[AV];omega
   have hh:BZ 4 (X.map F.V)=true:=by
    cases X with
    |nil=>rfl
    |cons y ys=>obtain⟨a,b,c,d⟩:=y;simp[BZ,F.V_eq]
   obtain⟨xo,xn,xi,xk⟩:=x;simp[F.V_eq]at q;simp[h1,AD];simp only[AB 334 7];simp[hx,F.V_eq];refine⟨_,_,q _,?_⟩;simp[G,hh];simp[AB 334 6,hw]
  .have Z:k=kids.length:=AE;subst Z;rw[sE];simp[AN,AB 334 8,AA,AW 334]
 .rw[if_neg W];simp[F.V_eq,W,AB 334 2,AA,AW 334]
def Yq(X:List F):BZ 4 (X.map F.V)=true:=by
 cases X with
 |nil=>rfl
 |cons y ys=>obtain⟨a,b,c,d⟩:=y;simp[BZ,F.V_eq]
def fu(v0 v1 v8:V)(tops xs:List F)(a:F)(ai:Nat)(Z:xs[ai]?=some a)(acc:List F)(a2:acc.length+tops.length<=64)(W:∀b∈tops,(mkA a b).ok/\A6 (mkA a b)=0)(J:List Row)(Q:AExit->St->Prop)(hQ:∀e J,AK e 0= .v v0->AK e 1= .v v1->AK e 6=(tops.map F.V:D)->AK e 7= .W 84 4 ((acc++tops.map (mkA a)).map F.V)->AK e 8= .v v8->AK e 9=(xs.map F.V:D)->AK e 11=(ai:D)->Q (.exit 4) ⟨e,J⟩):
  AX (.loop (lG 314 2)) Q ⟨[(0,.v v0),(1,.v v1),(6,(tops.map F.V:D)),(7,.W 84 4 (acc.map F.V)),(8,.v v8),(9,(xs.map F.V:D)),(11,(ai:D)),(12,((0:Int):D))],J⟩:=by
 refine Ag tops.length (λk s=>∃J,s=⟨[(0,.v v0),(1,.v v1),(6,(tops.map F.V:D)),(7,.W 84 4 ((acc++(tops.take k).map (mkA a)).map F.V)),(8,.v v8),(9,(xs.map F.V:D)),(11,(ai:D)),(12,(k:D))],J⟩) ⟨J,Ac⟩ ?_;rintro k s hk ⟨J,rfl⟩;simp only[Zw,BG 314 2,AB 314 15];by_cases h1:k <tops.length
 .obtain⟨b,N⟩:∃b,tops[k]?=some b:=⟨_,rW h1⟩;have O:=rY N;have hw:=Bt k;obtain⟨o1,o2⟩:=W b O;have q1:=dL a;have q2:=dL b;have G:=(W5 _ o1).fsp;rw[o2]at G;have a6:(BU a).length+(BU b).length<=2^40:=by have h2:=o1.2;unfold mkA at h2;rw[F.size_eq]at h2;have h3:=F.kids_len (BU a++BU b);rw[re]at h3;omega
  have ht:(tops.take (k+1)).map (mkA a)=(tops.take k).map (mkA a)++[mkA a b]:=by rw[rx,N,r9];rfl
  have a7:((tops.take k).map (mkA a)).length<=k:=by rw[sD,sJ];omega
  have hA:=Yq (BU a);have hB:=Yq (BU b);rw[ht];have hm:mkA a b= .mk 4 0 [] (BU a++BU b):=rfl;rw[hm]at G ⊢;generalize (tops.take k).map (mkA a)=L at*;generalize BU a=PA at*;generalize BU b=PB at*;have r1:AV PA.length 64=true:=by simp[AV];omega
  have r2:AV (PA.length+PB.length) 64=true:=by simp[AV];omega
  have r3:AV (acc.length+L.length+1) 64=true:=by simp[AV];omega
  obtain⟨ao,an,a1,ak⟩:=a;obtain⟨bo,bn,bi,bk⟩:=b;simp only[F.V_eq]at q1 q2;simp[F.V_eq]at G;simp[h1,AD];simp only[Aa,AB 314 17];simp[Z,F.V_eq];refine⟨_,_,⟨rfl,rfl⟩,_,q1,?_⟩;simp[hA,r1,N,F.V_eq];refine⟨_,_,⟨rfl,rfl⟩,_,q2,?_⟩;simp[hB,r2,AQ];simp only[AB 314 18];simp;refine⟨_,_,G _,?_⟩;simp;simp only[AB 314 20];simp[r3];simp[AB 314 16,hw]
 .have U:k=tops.length:=AE;subst U;rw[sE];simp at hQ;simp[AN];exact hQ _ _ rfl rfl rfl rfl rfl rfl rfl
def G2(tops:List F)(a:F):List F:=tops.map (mkA a)
def QF(tops:List F)(l:List F):(l.flatMap (G2 tops)).length=l.length*tops.length:=by
 induction l with
 |nil=>simp
 |cons x xs ih=>rw[r7,re,ih,sF,sm,Nat.one_mul,Nat.add_comm];simp[G2]
def fv(v0 O U:V)(tops xs:List F)(a8:xs.length<=64)(acc:List F)(a7:acc.length+xs.length*tops.length<=64)(a6:∀a∈xs,∀b∈tops,(mkA a b).ok/\A6 (mkA a b)=0)(J:List Row)(Q:AExit->St->Prop)(hQ:∀e J,AK e 0= .v v0->AK e 1= .v O->AK e 6=(tops.map F.V:D)->AK e 7= .W 84 4 ((acc++xs.flatMap (G2 tops)).map F.V)->AK e 8= .v U->Q (.exit 2) ⟨e,J⟩):
  AX (.loop (lG 314 1)) Q ⟨[(0,.v v0),(1,.v O),(6,(tops.map F.V:D)),(7,.W 84 4 (acc.map F.V)),(8,.v U),(9,(xs.map F.V:D)),(11,((0:Int):D))],J⟩:=by
 refine Ag xs.length (λk s=>∃J,s=⟨[(0,.v v0),(1,.v O),(6,(tops.map F.V:D)),(7,.W 84 4 ((acc++(xs.take k).flatMap (G2 tops)).map F.V)),(8,.v U),(9,(xs.map F.V:D)),(11,(k:D))],J⟩) ⟨J,Ac⟩ ?_;rintro k s hk ⟨J,rfl⟩;simp only[Zw,BG 314 1,AB 314 12];by_cases W:k <xs.length
 .obtain⟨a,Z⟩:∃a,xs[k]?=some a:=⟨_,rW W⟩;have a1:=rY Z;have hw:=Bt k;have ht:(xs.take (k+1)).flatMap (G2 tops)=(xs.take k).flatMap (G2 tops)++G2 tops a:=by rw[rx,Z,tU];simp
  have hl:=QF tops (xs.take k);rw[sJ,tY hk]at hl;have N:(k+1)*tops.length<=xs.length*tops.length:=t7 _ W;rw[sm,Nat.one_mul]at N;have G:=λJ Q=>fu v0 O U tops xs a k Z (acc++(xs.take k).flatMap (G2 tops)) (by rw[re];omega) (a6 a a1) J Q;rw[ht];generalize (xs.take k).flatMap (G2 tops)=L at*;simp at G;simp[W,AD,AB 314 14];refine G _ _ ?_;intro e J f0 f1 f6 f7 f8 f9 f11;simp[AB 314 13,f0,f1,f6,f7,f8,f9,f11,hw,G2]
 .have a2:k=xs.length:=AE;subst a2;rw[sE];simp only[r9]at hQ;simp[AN];exact hQ _ _ rfl rfl rfl rfl rfl
def kO(T:List Clm)(hT:AltOK T):∀i:Nat,i <T.length->PX 314 [(T.map Clm.V:V),i] [.list ((CV T i).map F.V),.bool true]:=by
 intro i;induction i using Nat.strongRecOn with
 |_ i ih=>
  intro hi;obtain⟨c,hc⟩:∃c,T[i]?=some c:=⟨_,rW hi⟩;have b5:=rY hc;obtain⟨b1,b2,b3⟩:=hT.body c b5;have a6:=hT.pre i c hc;have a2:=hT.one i c hc;have a1:=hT.mka i c hc;have N:∀r∈c.refs,((CG (T.take i))[r.toNat]?).getD []=CV T r:=by intro r G;have:=hT.low i c hc r G;have hl:=Gp T;rw[KE T i AE,List.getElem?_take_of_lt AE];rfl
  have b4:∀r∈c.refs,PX 314 [(T.map Clm.V:V),.int .i64 r] [.list ((CV T r).map F.V),.bool true]:=by intro r G;have:=hT.low i c hc r G;obtain⟨m,rfl⟩:∃m:Nat,r=m:=⟨r.toNat,AE⟩;exact ih m AE AE
  have b0:CV T i=if c.refs=[] then c.body.tops else c.refs.flatMap λr=>(CV T r).flatMap (G2 c.body.tops):=by
   have e:=KG T hc T.length hi (ri _);rw[sE]at e;rw[show CV T i=((CG T)[i]?).getD [] from by unfold CV;rw[tu],e,sA];unfold Ff;split
   .rfl
   .have:∀l:List Int,(∀r∈l,r∈c.refs)->(l.flatMap λr=>(((CG (T.take i))[r.toNat]?).getD []).flatMap λa=>c.body.tops.map λb=>mkA a b)=l.flatMap λr=>(CV T r).flatMap (G2 c.body.tops):=by
     intro l;induction l with
     |nil=>intro _;rfl
     |cons x xs ihx=>intro h;rw[r7,r7,ihx λr G=>h r (by simp[G]),N x (h x Ac)];rfl
    exact this _ λr G=>G
  have W:∀j,j<=c.refs.length->((c.refs.take j).flatMap λr=>(CV T r).flatMap (G2 c.body.tops)).length<=64:=by
   intro j hj;have:∀l:List Int,(∀r∈l,r∈c.refs)->(l.flatMap λr=>(((CG (T.take i))[r.toNat]?).getD []).flatMap λa=>c.body.tops.map (mkA a))=l.flatMap λr=>(CV T r).flatMap (G2 c.body.tops):=by
    intro l;induction l with
    |nil=>intro _;rfl
    |cons x xs ihx=>intro h;rw[r7,r7,ihx λr G=>h r (by simp[G]),N x (h x Ac)];rfl
   rw[<-this _ λr G=>s9 G];exact a6 j hj
  have U:∀r∈c.refs,(CV T r).length<=64:=λr G=>by rw[<-N r G];exact a2 r G
  have O:∀r∈c.refs,∀a∈CV T r,∀b∈c.body.tops,(mkA a b).ok/\A6 (mkA a b)=0:=λr G a ha=>a1 r G a (by rw[N r G];exact ha);clear a6 a2 a1 N;have Z:=(kC c.body b1).fsp;refine BS 314 ?_;simp only[Zw,As 314,AB 314 0,AB 314 1,Ad];obtain⟨refs,op,n,ins,kids⟩:=c;simp only[F.V_eq]at Z;simp at Z;simp only at b0 b4 U O W b2 b3;rw[b0];generalize (F.mk op n ins kids).tops=tops at*;simp[hc,Clm.V,AM,F.op,F.n,F.ins,F.kids];refine⟨_,_,Z _,?_⟩;simp only[AB 314 2];simp[hc,Clm.V,AM];by_cases h0:refs=[]
  .subst h0;simp[AB 314 3,AA,AW 314];omega
  .simp[h0,AD,AB 314 4,AB 314 5];refine Ag refs.length (λk s=>∃J,s=⟨[(0,(T.map Clm.V:D)),(1,(i:D)),(6,(tops.map F.V:D)),(7,.W 84 4 (((refs.take k).flatMap λr=>(CV T r).flatMap (G2 tops)).map F.V)),(8,(k:D))],J⟩) ⟨[],Ac⟩ ?_;rintro k s hk ⟨J,rfl⟩;simp only[Zw,BG 314 0,AB 314 6];simp[hc,Clm.V,AM];by_cases h1:k <refs.length
   .obtain⟨r,G⟩:∃r,refs[k]?=some r:=⟨_,rW h1⟩;have a8:=rY G;have hw:=Bt k;have q:=(b4 r a8).fsp;have ht:((refs.take (k+1)).flatMap λr=>(CV T r).flatMap (G2 tops))=((refs.take k).flatMap λr=>(CV T r).flatMap (G2 tops))++(CV T r).flatMap (G2 tops):=by rw[rx,G,tU];simp
    have hp:=W (k+1) h1;have ho:=U r a8;have hm:=O r a8;rw[ht]at hp ⊢;generalize ((refs.take k).flatMap λr=>(CV T r).flatMap (G2 tops))=acc at*;generalize CV T r=xs at*;rw[re,QF]at hp;have a7:=λJ Q=>fv (T.map Clm.V:V) (i:V) (k:V) tops xs ho acc hp hm J Q;obtain⟨P,hP⟩:∃P,xs.length*tops.length=P:=⟨_,rfl⟩;rw[hP]at hp;have w1:IntKind.i64.wrap ((xs.length:Int)*(tops.length:Int))=P:=by rw[<-Int.natCast_mul,hP];exact AS AE AE
    have w2:IntKind.i64.wrap ((acc.length:Int)+(P:Int))=acc.length+P:=AS AE AE;have w3:¬(64:Int) <acc.length+P:=AE;simp at q;rw[if_pos h1,AD];simp only[AB 314 8];simp[hc,Clm.V,AM,G];refine⟨_,_,q _,?_⟩;simp only[AB 314 9];simp[w1,w2,w3,AD,AB 314 11];refine a7 _ _ ?_;intro e J f0 f1 f6 f7 f8;simp[AB 314 7,f0,f1,f6,f7,f8,hw,h1]
   .have b6:k=refs.length:=AE;subst b6;rw[if_neg h1,AN,sE];simp[AB 314 21,AA,AW 314]
def lE(T:List Clm)(J:AltOK T)(G:∀c∈T,c.ok)(U:CB T=0)(i:Nat)(hi:i <T.length):PX 266 [(T.map Clm.V:V),i] [.list ((CV T i).map F.V),((0:Int):V)]:=by refine BS 266 ?_;have N:=(dg T G (by have:=J.len;omega) U i hi).fsp;have O:=(kO T J i hi).fsp;generalize CV T i=M at*;simp at N O;simp only[As 266,AH,AJ,AO,AB 266 0,AB 266 1,Ad];simp;refine⟨_,_,N _,?_⟩;simp[AB 266 2,AD];simp only[AB 266 4];simp;refine⟨_,_,O _,?_⟩;simp[AB 266 5];simp[AB 266 7,AA,AW 266]
section
def oU(v0 N:V)(r:Rgt)(hn:r.dates.length<=2^40)(i k day:Int)(tr:Row)(out b:Bool)(J:List Row)(Q:AExit->St->Prop)(G:∀e J,AK e 0= .v v0->AK e 2=(i:D)->AK e 4=(day:D)->AK e 6= .R 0 0->AK e 8= .R 1 0->AK e 12= .v N->AK e 14= .v (.bool (out||(b&&Ro r i k day)))->AK e 15=(k:D)->Q (.exit 2) ⟨e,r.row::tr::J⟩):
  AX (.loop (lG 166 1)) Q ⟨[(0,.v v0),(2,(i:D)),(4,(day:D)),(6,.R 0 0),(8,.R 1 0),(12,.v N),(14,(out:D)),(15,(k:D)),(16,(b:D)),(18,((0:Int):D))],r.row::tr::J⟩:=by
 cases b with
 |false=>
  simp at G;refine Av ?_;simp only[Zw,BG 166 1,AB 166 12,Rgt.row,AM];by_cases h0:0 <r.dates.length
  .simp[h0,AN];exact G _ _ rfl rfl rfl rfl rfl rfl rfl rfl
  .simp[h0,AN];exact G _ _ rfl rfl rfl rfl rfl rfl rfl rfl
 |true=>
  simp only[sV]at G;unfold Ro at G;refine Ag r.dates.length (λj s=>∃J,s=⟨[(0,.v v0),(2,(i:D)),(4,(day:D)),(6,.R 0 0),(8,.R 1 0),(12,.v N),(14,.v (.bool (out||(r.dates.take j).any λd=>((d.cl==i)&&(d.ix==k))&&decide (d.day <day)))),(15,(k:D)),(16,(true:D)),(18,(j:D))],r.row::tr::J⟩) ⟨J,Ac⟩ ?_;rintro j s hj ⟨J,rfl⟩;simp only[Zw,BG 166 1,AB 166 12,Rgt.row,AM];by_cases h1:j <r.dates.length
  .obtain⟨d,hd⟩:∃d,r.dates[j]?=some d:=⟨_,rW h1⟩;have U:=Bt j;have ht:((r.dates.take (j+1)).any λd=>((d.cl==i)&&(d.ix==k))&&decide (d.day <day))=(((r.dates.take j).any λd=>((d.cl==i)&&(d.ix==k))&&decide (d.day <day))||(((d.cl==i)&&(d.ix==k))&&decide (d.day <day))):=by rw[rx,hd,List.any_append];simp
   rw[ht,<-Bool.or_assoc];generalize (out||(r.dates.take j).any λd=>((d.cl==i)&&(d.ix==k))&&decide (d.day <day))=B at*
   obtain⟨dc,dx,dd,df⟩:=d;simp[h1,AD];simp only[AB 166 14];simp[hd,Dat.V,AQ];simp only[AB 166 15];cases B with
   |true=>
    simp;simp[AB 166 13,U]
   |false=>
    by_cases O:dc=i
    .by_cases W:dx=k
     .by_cases c3:dd <day<;>(simp[O,W,c3];simp[AB 166 13,U])
     .simp[O,W];simp[AB 166 13,U];exact λh=>absurd h W
    .simp[O];simp[AB 166 13,U];exact λh=>absurd h O
  .have Z:j=r.dates.length:=AE;subst Z;rw[sE];simp only[Rgt.row,AM]at G;simp[AN];exact G _ _ rfl rfl rfl rfl rfl rfl rfl rfl
variable {pa:List V}
def mt{I:Int->Int->Bool}(hp:pa.length<=2^40)(hI:∀a b:Int,0<=a->a <pa.length->0<=b->b <pa.length->PX 311 [pa,a,b] [.bool (I a b)])(r:Rgt)(hr:AltOK r.claims)(a7:∀c∈r.claims,c.ok)(hz:CB r.claims=0)(hd:r.dates.length<=2^40)(i:Nat)(hi:i <r.claims.length)(t:Th)(ht:t.ok)(hs:t.size<=2^40)(W:∀f∈CV r.claims i,f.ok/\Cq pa.length f t=0)(hl:(CV r.claims i).length<=64)(day:Int):
  PX 166 [pa,r.V,i,t.V,day] [(UA I t r i day:V),((0:Int):V)]:=by
 refine BS 166 ?_;have q1:=(lE r.claims hr a7 hz i hi).fsp;have q2:=λf Z=>eK hp hI f (W f Z).1 t ht hs;unfold UA;generalize CV r.claims i=G at*;have a2:=λv0 a8 k tr out b J Q=>oU v0 a8 r hd i k day tr out b J Q;obtain⟨N,U,O⟩:=t;simp only[Th.V_eq,Rgt.V,Rgt.cs,AM,Rgt.row]at*;simp at q1;simp only[Zw,As 166,AB 166 0,AB 166 1,Ad];simp;refine⟨_,_,q1 _,?_⟩;simp[AB 166 2,AD,AB 166 4,AB 166 5];refine Ag G.length (λk s=>∃J,s=⟨[(0,(pa:D)),(2,(i:D)),(4,(day:D)),(6,.R 0 0),(8,.R 1 0),(12,(G.map F.V:D)),(14,.v (.bool (IS I (.mk N U O) r i day 0 (G.take k)))),(15,(k:D))],
  .cells [r.file,r.state,r.force,(r.claims.map Clm.V:D),(r.dates.map Dat.V:D),.v (.list (r.bad.map (.int .i64))),(r.owners.map Own.V:D),(r.lics.map Lic.V:D)]:: .cells [.v (.list (N.map (.int .i64))),(U.map Val.V:D),(O.map Th.V:D)]::J⟩) ⟨[],by simp[IS]⟩ ?_
 rintro k s hk ⟨J,rfl⟩;simp only[Zw,BG 166 0,AB 166 6];by_cases h1:k <G.length
 .obtain⟨f,Z⟩:∃f,G[k]?=some f:=⟨_,rW h1⟩;have a1:=rY Z;have hw:=Bt k;have q:=q2 f a1;rw[(W f a1).2]at q;simp only[decide_true,sV]at q;have ht:IS I (.mk N U O) r i day 0 (G.take (k+1))=(IS I (.mk N U O) r i day 0 (G.take k)||(f.hold I (.mk N U O)&&Ro r i k day)):=by
   have hl:(G.take k).length=k:=by rw[sJ];omega
   rw[rx,Z,Option.toList_some,Mu,hl,tI]
  rw[ht];generalize IS I (.mk N U O) r i day 0 (G.take k)=B at*;generalize f.hold I (.mk N U O)=b at*;obtain⟨fo,fn,fi,fk⟩:=f;simp only[F.V_eq]at q;simp[h1,AD];simp only[Aa,AB 166 8];simp[Z,F.V_eq];refine⟨_,_,⟨rfl,rfl⟩,_,q,?_⟩;simp[AB 166 9,AB 166 11];refine a2 _ _ _ _ _ _ _ _ ?_;intro e J f0 f2 f4 f6 f8 f12 f14 f15;simp[AB 166 7,f0,f2,f4,f6,f8,f12,f14,f15,hw]
 .have a6:k=G.length:=AE;subst a6;rw[sE];simp[AN,AB 166 16,AA,AW 166]
end
def jl(J:V)(x:Ext)(G:x.kind=0):PX 77 [J,x.V] [.list [],.list [],((0:Int):V)]:=by refine BS 77 ?_;simp only[As 77,AH,AJ,AO,AB 77 0,AB 77 1,Ad,Ext.V,Ext.cs];simp[G,AB 77 2,AA,AW 77]
def nz(x:Ext)(r:Rgt)(i:Nat)(U:x.rs[i]?=some r)(ho:r.owners.length <2^40)(J:D)(Q:AExit->St->Prop)(hQ:∀e,AK e 3= .R 0 0->AK e 7=J->AK e 8=(i:D)->AK e 9= .v (.bool (r.owners.any λo=>o.party==x.party))->Q (.exit 2) ⟨e,[x.row]⟩):
  AX (.loop (lG 77 1)) Q ⟨[(3,.R 0 0),(7,J),(8,(i:D)),(9,(false:D)),(10,((0:Nat):D))],[x.row]⟩:=by
 refine Ab r.owners.length (λk=>⟨[(3,.R 0 0),(7,J),(8,(i:D)),(9,.v (.bool ((r.owners.take k).any λo=>o.party==x.party))),(10,(k:D))],[x.row]⟩) Ac ?_;intro k hk;obtain⟨Z,file,party,day,t,rs,cl,fs,L,R,S⟩:=x;obtain⟨rf,b0,a7,a2,a6,a1,row,a8⟩:=r;simp only[Ext.row,Ext.cs,AM]at*;simp only[Zw,BG 77 1,AB 77 10];simp[U,Rgt.V,Rgt.cs];by_cases O:k <row.length
 .obtain⟨o,G⟩:∃o,row[k]?=some o:=⟨_,rW O⟩;have W:=Bt k;have ht:((row.take (k+1)).any λo=>o.party==party)=(((row.take k).any λo=>o.party==party)||(o.party==party)):=by rw[rx,G,List.any_append];simp
  rw[ht];generalize ((row.take k).any λo=>o.party==party)=B at*;simp[O,AD];simp only[Aa,AB 77 12];cases B with
  |true=>
   simp;simp[AB 77 11,W]
  |false=>
   simp[U,G,Rgt.V,Rgt.cs,Own.V];simp[AB 77 11,W]
 .have N:k=row.length:=AE;subst N;rw[Bj,AN];rw[sE];exact hQ _ rfl rfl rfl rfl
def jm(pa:V)(x:Ext)(Z:x.kind=2)(hn:x.rs.length<=2^20)(ho:∀r∈x.rs,r.owners.length <2^40):PX 77 [pa,x.V] [.list [],AM .i64 (Cl x.party x.rs),((0:Int):V)]:=by
 refine BS 77 ?_;have G:=λr i N d7 Q=>nz x r i N (ho r (rY N)) d7 Q;obtain⟨a2,file,party,day,t,rs,cl,fs,L,R,S⟩:=x;simp only[Ext.row,Ext.cs,AM]at*;subst Z;simp only[Zw,As 77,AB 77 0,AB 77 1,Ad,Ext.V,Ext.cs];simp[AD,AB 77 3,AB 77 4,AB 77 5,AM];refine Ab rs.length (λk=>⟨[(3,.R 0 0),(7,.W 3 1 ((Cl party (rs.take k)).map (.int .i64))),(8,(k:D))],[(Ext.mk 2 file party day t rs cl fs L R S).row]⟩) (by simp[Cl,Ext.row,Ext.cs,AM]) ?_;intro k Z;simp only[Zw,BG 77 0,AB 77 6,Ext.row,Ext.cs,AM];simp;by_cases W:k <rs.length
 .obtain⟨r,N⟩:∃r,rs[k]?=some r:=⟨_,rW W⟩;have hw:=Bt k;have O:Cl party (rs.take (k+1))=Cl party (rs.take k)++if (r.owners.any λo=>o.party==party) then [r.file] else []:=by rw[rx,N];unfold Cl;rw[tW,r9];cases h2:r.owners.any (λo=>o.party==party)<;>simp[h2]
  have a1:(Cl party (rs.take k)).length<=k:=by unfold Cl;have:=sZ (λr=>r.owners.any λo=>o.party==party) (rs.take k);rw[sJ]at this;rw[sD];omega
  rw[O];generalize Cl party (rs.take k)=L0 at*;have J:AV (L0.length+1) 8=true:=by simp[AV];omega
  have G:=G r k N;generalize (r.owners.any λo=>o.party==party)=B at*;simp at G;simp[W,AD,AB 77 8,AB 77 9];refine G _ _ ?_;intro e h3 h7 h8 h9;simp[AB 77 13,h3,h7,h8,h9];obtain⟨rf,b2,b0,a7,a8,a6,row,b1⟩:=r;cases B with
  |false=>simp[AB 77 7,hw]
  |true=>
   simp[AB 77 14,N,Rgt.V,Rgt.cs,J];simp[AB 77 7,hw]
 .have U:k=rs.length:=AE;subst U;rw[Bj,AN,sE];simp[AB 77 15,AA,AW 77]
def dD(O:List V)(x:Ext)(cl:List (Int×Int))(E:Int)(hk:x.kind=1\/x.kind=3/\E≠0)(J:PX 73 [O,(x.rs.map Rgt.V:V),x.t.V] [(cl.map BY:V),(E:V)]):
  PX 77 [O,x.V] [(cl.map BY:V),.list [],(E:V)]:=by
 refine BS 77 ?_;obtain⟨G,file,party,day,⟨tc,tv,tp⟩,rs,U,fs,L,R,S⟩:=x;have q:=J.fsp;simp only[Th.V_eq]at*;have W:¬G=0:=AE;have k2:¬G=2:=AE;simp at q;simp only[As 77,AH,AJ,AO,AB 77 0,AB 77 1,Ad,Ext.V,Ext.cs,Th.cs,Th.vs,Th.ps,AM]at*;simp[W,AD,AB 77 3,k2];simp only[AB 77 16];simp;refine⟨_,_,q _,?_⟩;simp only[AB 77 17];by_cases N:E=0
 .have Z:G=1:=AE;simp[N,Z,AB 77 18,AA,AW 77]
 .simp[N,AB 77 18,AA,AW 77]
def nx(v0:V)(x:Ext)(cl:List (Int×Int))(c:Int×Int)(i:Nat)(hc:cl[i]?=some c)(j:Nat)(r:Rgt)(hr:x.rs[j]?=some r)(W:r.file=c.1)(U:∀k q,k <j->x.rs[k]?=some q->q.file≠c.1)(hj:j <2^40)(G:D)(Q:AExit->St->Prop)(hQ:∀e,AK e 0= .v v0->AK e 3= .R 0 0->AK e 11=(cl.map BY:D)->AK e 13=G->AK e 14=(i:D)->AK e 15=(j:D)->Q (.exit 6) ⟨e,[x.row]⟩):
  AX (.loop (lG 77 3)) Q ⟨[(0,.v v0),(3,.R 0 0),(11,(cl.map BY:D)),(13,G),(14,(i:D)),(15,((0:Nat):D))],[x.row]⟩:=by
 refine Ab j (λk=>⟨[(0,.v v0),(3,.R 0 0),(11,(cl.map BY:D)),(13,G),(14,(i:D)),(15,(k:D))],[x.row]⟩) rfl ?_;intro k hk;obtain⟨a1,file,party,day,t,rs,a2,fs,L,R,S⟩:=x;have a6:j <rs.length:=(rZ.1 hr).1;obtain⟨q,O⟩:∃q,rs[k]?=some q:=⟨_,rW AE⟩;have J:q.file=c.1↔k=j:=by
  constructor
  .intro h;rcases sL k j with N|N
   .exact absurd h (U k q N O)
   .omega
  .rintro rfl;rw[hr]at O;obtain rfl:=tR O;exact W
 obtain⟨Z,ci⟩:=c;simp only[Ext.row,Ext.cs,AM]at*;simp only[BG 77 3,AH,Aa,AY,AO,AB 77 24];obtain⟨rf,b3,b1,a8,b0,a7,row,b2⟩:=q;simp only at J;simp[O,hc,Rgt.V,Rgt.cs,BY];by_cases N:k=j
 .have h2:rf=Z:=J.2 N;subst N;simp[h2,AN];exact hQ _ rfl rfl rfl rfl rfl rfl
 .have h2:¬rf=Z:=λh=>N (J.1 h);have hw:=Bt k;simp[h2,AD,AJ,AB 77 25,hw];omega
def jo(pa:List V)(x:Ext)(hk:x.kind=3)(cl:List (Int×Int))(b4:cl.length<=2^20)(b2:PX 73 [pa,(x.rs.map Rgt.V:V),x.t.V] [(cl.map BY:V),((0:Int):V)])(b:Int×Int->Bool)(hf:∀c∈cl,∃j r,x.rs[j]?=some r/\r.file=c.1/\(∀k q,k <j->x.rs[k]?=some q->q.file≠c.1)/\j <2^40/\PX 166 [pa,r.V,c.2,x.t.V,x.day] [.bool (b c),((0:Int):V)]):
  PX 77 [pa,x.V] [.list ((cl.filter b).map BY),.list [],((0:Int):V)]:=by
 refine BS 77 ?_;have G:=λc i hc j r hr O N hj a6 Q=>nx (pa:V) x cl c i hc j r hr O N hj a6 Q;obtain⟨b3,file,party,day,⟨tc,tv,tp⟩,rs,a2,fs,L,R,S⟩:=x;have q:=b2.fsp;simp only[Th.V_eq,Th.cs,Th.vs,Th.ps,Ext.row,Ext.cs,AM]at*;subst hk;simp at q;simp only[Zw,As 77,AB 77 0,AB 77 1,Ad,Ext.V,Ext.cs,Th.cs,Th.vs,Th.ps,AM]at*;simp[AD,AB 77 3];simp only[AB 77 16];simp;refine⟨_,_,q _,?_⟩;simp only[AB 77 17];simp[AB 77 19,AB 77 20];refine Ab cl.length (λk=>⟨[(0,(pa:D)),(3,.R 0 0),(11,(cl.map BY:D)),(13,.W 186 2 (((cl.take k).filter b).map BY)),(14,(k:D))],[.cells ((Ext.mk 3 file party day (.mk tc tv tp) rs a2 fs L R S).cs.map .v)]⟩) (by simp[Ext.cs,AM,Th.cs,Th.vs,Th.ps]) ?_;intro k hk;simp only[Zw,BG 77 2,AB 77 21,Ext.cs,AM,Th.cs,Th.vs,Th.ps];simp;by_cases h1:k <cl.length
 .obtain⟨c,hc⟩:∃c,cl[k]?=some c:=⟨_,rW h1⟩;obtain⟨j,r,hr,O,N,hj,J⟩:=hf c (rY hc);have hw:=Bt k;have b0:(cl.take (k+1)).filter b=(cl.take k).filter b++if b c then [c] else []:=by rw[rx,hc,tW];cases h2:b c<;>simp[h2]
  have a1:=sZ b (cl.take k);rw[sJ]at a1;rw[b0];generalize (cl.take k).filter b=L0 at*;have U:AV (L0.length+1) 16=true:=by simp[AV];omega
  have G:=G c k hc j r hr O N hj;simp at G;obtain⟨cf,ci⟩:=c;obtain⟨rf,c2,c0,b6,b9,b5,row,c1⟩:=r;simp[Rgt.V,Rgt.cs,AM]at J;generalize b (cf,ci)=B at*;simp[h1,AD,AB 77 23];refine G _ _ ?_;intro e h0 h3 W a7 Z a8;simp only[Aa,AB 77 26];simp[h0,h3,W,Z,a8,hr,hc,Rgt.V,Rgt.cs,BY,AM];refine⟨_,_,⟨rfl,rfl⟩,_,J,?_⟩;simp[AB 77 27,AB 77 29,h0,h3,W,a7,Z];cases B with
  |false=>simp[AB 77 22,hw]
  |true=>
   simp[AB 77 30,hc,BY,U];simp[AB 77 22,hw]
 .have b1:k=cl.length:=AE;subst b1;rw[Bj,AN,sE];simp[AB 77 31,AA,AW 77]
def Gn(kind file party day:Int)(t:Th):Ext:=⟨kind,file,party,day,t,[],[],[],[],[],[]⟩
def qW(x:Ext):PX 75 [x.V] [((if x.kind=0 then x.file else 0:Int):V),((if x.kind=0 then x.file else 4095:Int):V)]:=by
 refine BS 75 ?_;obtain⟨G,file,party,day,t,rs,cl,fs,L,R,S⟩:=x;simp only[As 75,AH,AJ,AO,AB 75 0,AB 75 1,Ad,Ext.V,Ext.cs];by_cases h:G=0
 .simp[h,Aa,AB 75 2,AA,AW 75,AM]
 .simp[h,AD,AB 75 3,AA,AW 75,AM]
def Q1(a b:Int)(rs:List Rgt):List Rgt:=rs.filter λr=>decide (a<=r.file/\r.file<=b)
def Nm:Th:= .mk [] [] []
def E7:Ext:=Gn 0 0 0 0 (.mk [] [] [])
def NA(E:Int)(x:Ext):Ext:=if E=0 then x else E7
def Wc(ps:List (Int×List Int))(a b:Int):List Int:=ER (Jk ps) a (BA a b 12 0)
def Wb(ps:List (Int×List Int))(a b:Int):List Int:=EM (Jk ps) a (BA a b 12 0)
def Uz(ps:List (Int×List Int))(a b:Int):List Int:=DH (Jk ps) (BA a b 12 0)
def OT(n:Int):Int:=if n <0\/4095 <n then 5 else 0
def LW(n:Int):Int:=if n <1\/4095 <n then 1 else 0
def PJ(n:Int):Int:=if n <0\/131072 <n then 5 else 0
def cz(x:Ext):PX 88 [x.V] [((if x.kind=0 then x.file else 0:Int):V),((if x.kind=0 then x.file else 4095:Int):V)]:=by
 refine BS 88 ?_;obtain⟨G,file,party,day,t,rs,cl,fs,L,R,S⟩:=x;simp only[As 88,AH,AJ,AO,AB 88 0,AB 88 1,Ad,Ext.V,Ext.cs];by_cases h:G=0
 .simp[h,AM];simp only[Aa,AB 88 2];simp[AA,AW 88]
 .simp[h,AM,AD,AB 88 3,AA,AW 88]
def GD(n:Nat)(x:Ext):Row.low n (.cells (x.cs.map .v))=true:=by simp only[Row.low];exact Ji _
def cw(h:List Row)(N:Low h)(y:D)(x:Ext)(G:x.kind=0)(O:y.copy=y/\D.lt h.length y=true):FX 90 [y,.v x.V] h [.W 76 2 [],.W 3 1 [],((0:Int):D)] h:=by refine At (D6 90) rfl (ri _) N (by simp[D.lt]) ?_;obtain⟨J,file,party,day,t,rs,cl,fs,L,R,S⟩:=x;simp only at G;subst G;simp only[Zw,As 90,AB 90 0,AB 90 1,AZ,Ext.V,Ext.cs];simp;simp[AB 90 2,AB 90 11,AD];simp only[AB 90 12];simp;simp[AB 90 27,AA,AW 90]
def Zm(h:List Row)(hl:Low h)(x:Nat)(e:Ext)(cl:List (Int×Int))(E:Int)(hk:e.kind=1\/e.kind=3/\E≠0)(N:∀Z,Lows Z->FX 185 [.R x 0,(e.rs.map Rgt.V:D),.v e.t.V] (h++Z) [.W 76 2 (cl.map BY),(E:D)] (h++Z)):
  FX 90 [.R x 0,.v e.V] h [(cl.map BY:D),.W 3 1 [],(E:D)] h:=by
 refine At (D6 90) rfl (ri _) hl (by simp[D.lt]) ?_;have U:=N [.cells (e.cs.map .v)] (by intro row G n;rw[rm.1 G];exact GD n _)
 obtain⟨J,file,party,day,⟨tc,tv,tp⟩,rs,W,fs,L,R,S⟩:=e;simp only[Ext.V,Ext.cs,Th.cs,Th.vs,Th.ps,AM]at*;simp[Th.V_eq,AM]at U;simp only[Zw,As 90,AB 90 0,AB 90 1,AZ];simp;have k2:¬J=2:=AE;rcases hk with rfl|⟨rfl,O⟩
 .simp[AB 90 2,AB 90 11,AD];simp only[AB 90 13];simp;refine⟨_,_,U,?_⟩;simp only[AB 90 14];by_cases O:E=0<;>simp[O,AB 90 15,AA,AW 90]
 .simp[AB 90 2,AB 90 11,AD];simp only[AB 90 12];simp;simp only[AB 90 13];simp;refine⟨_,_,U,?_⟩;simp[O,AB 90 14,AB 90 15,AA,AW 90]
def RM(kind f p d:Int)(a4 a5 a6:D)(rs:List Rgt):Row:= .cells [.v (.int .i64 kind),.v (.int .i64 f),.v (.int .i64 p),.v (.int .i64 d),a4,a5,a6,.W 74 8 (rs.map Rgt.V),.W 76 2 [],.W 3 1 [],.W 47 1 [],.W 47 1 [],.W 5 1 []]
def oE(h:List Row)(G f p d:Int)(a4 a5 a6:D)(g:Nat)(rs:List Rgt)(hn:rs.length<=2^20)(P0:∀r∈rs,PX 113 [AM .u8 (A7 r)] [r.V,((0:Int):V)])(Z R9:Row)(Q:AExit->St->Prop)(hQ:∀e J,Lows J->AK e 0= .R g 0->AK e 3= .R h.length 0->AK e 4= .R (h.length+1) 0->AK e 9= .R (h.length+2) 0->Q (.exit 0) ⟨e,h++(RM G f p d a4 a5 a6 rs::Z::R9::J)⟩):
  AX (.loop (lG 61 0)) Q ⟨[(0,.R g 0),(3,.R h.length 0),(4,.R (h.length+1) 0),(9,.R (h.length+2) 0),(35,.v (.list (rs.map λr=>V.agg [(r.file:V),AM .u8 (A7 r)]))),(36,(rs.length:D)),(37,((0:Nat):D))],h++(RM G f p d a4 a5 a6 []::Z::R9::[])⟩:=by
 refine Ag rs.length (λk s=>∃J,Lows J/\s=⟨[(0,.R g 0),(3,.R h.length 0),(4,.R (h.length+1) 0),(9,.R (h.length+2) 0),(35,.v (.list (rs.map λr=>V.agg [(r.file:V),AM .u8 (A7 r)]))),(36,(rs.length:D)),(37,(k:D))],
   h++(RM G f p d a4 a5 a6 (rs.take k)::Z::R9::J)⟩) ⟨[],Lows.nil,Ac⟩ ?_
 rintro k s hk ⟨J,hJ,rfl⟩;simp only[Zw,BG 61 0,AB 61 6];simp;by_cases U:k <rs.length
 .obtain⟨r,hr⟩:∃r,rs[k]?=some r:=⟨_,rW U⟩;have w1:=Bt k;have W:rs.take (k+1)=rs.take k++[r]:=by rw[rx,hr];rfl
  have q1:=(P0 r (rY hr)).fsp;have a2:∀n,Row.low n (.cells [r.file,.v (AM .u8 (A7 r))])=true:=λn=>by simp[Row.low,D.lts,D.lt]
  have a7:∀n,Row.low n (.cells (r.cs.map .v))=true:=λn=>by simp only[Row.low];exact Ji _
  have O:=(hJ.app a2).app a7;rw[W];have hm:min k rs.length=k:=AE;have N:AV (k+1) 144=true:=by simp[AV];omega
  obtain⟨file,state,force,claims,dates,bad,owners,lics⟩:=r;generalize hE:A7 ⟨file,state,force,claims,dates,bad,owners,lics⟩=E at*;simp only[Rgt.V,Rgt.cs,RM,AM]at*;simp at q1;rw[CF,AD];simp only[AB 61 7];simp[hr,AQ,hE];simp only[AB 61 8];simp;refine⟨_,_,q1 _,?_⟩;simp[AQ];simp only[AB 61 9];simp[hm,N,AB 61 10,w1,U];simp at O;exact⟨O,by simp[Rgt.V,Rgt.cs,AM]⟩
 .have a1:k=rs.length:=AE;subst a1;rw[Bj,AN,sE];exact hQ _ _ hJ rfl rfl rfl rfl
def pW(t:Th)(d4 d5 d6:D):Prop:=(d4= .nil 3 1/\d5= .nil 171 3/\d6= .nil 58 3/\t=Nm)\/(d4= .v (AM .i64 t.cs)/\d5= .v (.list (t.vs.map Val.V))/\d6= .v (.list (t.ps.map Th.V)))
def FJ:Row:= .cells [.v (.int .i64 0),.v (.int .i64 0),.v (.int .i64 0),.v (.int .i64 0),.W 3 1 [],.W 171 3 [],.W 58 3 [],.W 74 8 [],.W 76 2 [],.W 3 1 [],.W 47 1 [],.W 47 1 [],.W 5 1 []]
def Lc(kind f p d:Int)(d4 d5 d6:D):D:= .agg [.v (.int .i64 kind),.v (.int .i64 f),.v (.int .i64 p),.v (.int .i64 d),d4,d5,d6,.nil 74 8,.nil 76 2,.nil 3 1,.nil 47 1,.nil 47 1,.nil 5 1]
def U4(h:List Row)(hl:Low h)(N f p d:Int)(t:Th){d4 d5 d6:D}(hT:pW t d4 d5 d6)(g tr qm x:Nat)(hg:h[g]?=some (.cells [.R x 0,.mr qm,.R tr 0]))(a b:Int)(ha:a=if N=0 then f else 0)(hb:b=if N=0 then f else 4095)(rs:List Rgt)(hn:rs.length<=2^20)(L R S:List Int)(E1:Int)(b1:E1≠0->rs=[])(b2:∀Z,Lows Z->FX 137 [.R tr 0,a,b] (h++Z) [.W 193 2 (rs.map λr=>V.agg [(r.file:V),AM .u8 (A7 r)]),.v (.agg [AM .u64 L,AM .u64 R,AM .u8 S]),(E1:D)] (h++Z))(P0:∀r∈rs,PX 113 [AM .u8 (A7 r)] [r.V,((0:Int):V)])(cl:List (Int×Int))(fs:List Int)(E2:Int)(dc:D)(a6:dc=(cl.map BY:D)\/dc= .W 76 2 (cl.map BY))(a8:E1=0->∀Z,Lows Z->FX 90 [.R x 0,.v (Ext.mk N f p d t rs [] [] L R S).V] (h++Z) [dc,.W 3 1 (fs.map (.int .i64)),(E2:D)] (h++Z)):
  FX 61 [.R g 0,Lc N f p d d4 d5 d6] h [.v (NA (if E1=0 then E2 else E1) ⟨N,f,p,d,t,rs,cl,fs,L,R,S⟩).V,((if E1=0 then E2 else E1:Int):D)] h:=by
 refine At (D6 61) rfl (ri _) hl (by simp[D.lt]) ?_;have a1:=(cz (Ext.mk N f p d t [] [] [] [] [] [])).fsp;simp only[<-ha,<-hb]at a1;have a7:=λZ=>AU Z hg;have U:=λR4 R9 Q=>oE h N f p d (D.toRow d4) (D.toRow d5) (D.toRow d6) g rs hn P0 R4 R9 Q;have vN:E7.V= .agg [((0:Int):V),((0:Int):V),((0:Int):V),((0:Int):V),.list [],.list [],.list [],.list [],.list [],.list [],.list [],.list [],.list []]:=rfl;have hq:=b2 [RM N f p d (D.toRow d4) (D.toRow d5) (D.toRow d6) [],FJ] (by
  intro row G n;simp only[rj,sK,or_false]at G;rcases G with rfl|rfl
  .rcases hT with ⟨rfl,rfl,rfl,_⟩|⟨rfl,rfl,rfl⟩<;>rfl
  .rfl)
 unfold NA;rcases hT with ⟨rfl,rfl,rfl,rfl⟩|⟨rfl,rfl,rfl⟩
 .simp only[Nm]at*;simp only[Ext.V,Ext.cs,Lc,RM,FJ,Th.cs,Th.vs,Th.ps,AM]at*;simp at a1 hq;simp only[Zw,As 61,AB 61 0,AZ];simp;simp only[AB 61 1];simp;refine⟨_,_,a1 _,?_⟩;simp;simp only[AB 61 2];simp[a7];refine⟨_,_,hq,?_⟩;simp[AQ];simp only[AB 61 3];by_cases hE:E1=0
  .have a2:=a8 hE;clear a8;subst hE;simp[AD,AB 61 5];simp at U;refine U _ _ _ ?_;intro e J hJ g0 g3 g4 g9;simp only[AB 61 11];simp[g0,g3,g4,g9,AQ];simp only[Aa,AB 61 12];simp[a7];have O:=a2 (.cells [N,f,p,d,.W 3 1 [],.W 171 3 [],.W 58 3 [],.W 74 8 (rs.map Rgt.V),.W 76 2 [],.W 3 1 [],.v (.list (L.map (.int .u64))),.v (.list (R.map (.int .u64))),.v (.list (S.map (.int .u8)))]::
     .cells [((0:Int):D),((0:Int):D),((0:Int):D),((0:Int):D),.W 3 1 [],.W 171 3 [],.W 58 3 [],.W 74 8 [],.W 76 2 [],.W 3 1 [],.W 47 1 [],.W 47 1 [],.W 5 1 []]:: .cells [.v (.list (L.map (.int .u64))),.v (.list (R.map (.int .u64))),.v (.list (S.map (.int .u8)))]::J) (by
    intro row G n;simp only[rj]at G;rcases G with rfl|rfl|rfl|G
    .rfl
    .rfl
    .rfl
    .exact hJ row G n)
   simp at O;by_cases W:E2=0
   .subst W;rcases a6 with rfl|rfl
    .refine⟨_,_,O,?_⟩;simp[AQ,AB 61 13,AB 61 15,AA,AW 61,D.one?]
    .refine⟨_,_,O,?_⟩;simp[AQ,AB 61 13,AB 61 15,AA,AW 61,D.one?]
   .rcases a6 with rfl|rfl
    .refine⟨_,_,O,?_⟩;simp[W,AQ,AB 61 13,AB 61 14,AA,AW 61,D.one?,D.vs?,D.v?,E7,Gn]
    .refine⟨_,_,O,?_⟩;simp[W,AQ,AB 61 13,AB 61 14,AA,AW 61,D.one?,D.vs?,D.v?,E7,Gn]
  .have b0:=b1 hE;subst b0;simp[hE,AB 61 4,AQ,AA,AW 61,D.one?,D.vs?,D.v?,E7,Gn]
 .obtain⟨cs,vs,pa⟩:=t;simp only[Ext.V,Ext.cs,Lc,RM,FJ,Th.cs,Th.vs,Th.ps,AM]at*;simp at a1 hq;simp only[Zw,As 61,AB 61 0,AZ];simp;simp only[AB 61 1];simp;refine⟨_,_,a1 _,?_⟩;simp;simp only[AB 61 2];simp[a7];refine⟨_,_,hq,?_⟩;simp[AQ];simp only[AB 61 3];by_cases hE:E1=0
  .have a2:=a8 hE;clear a8;subst hE;simp[AD,AB 61 5];simp at U;refine U _ _ _ ?_;intro e J hJ g0 g3 g4 g9;simp only[AB 61 11];simp[g0,g3,g4,g9,AQ];simp only[Aa,AB 61 12];simp[a7];have O:=a2 (.cells [N,f,p,d,.v (.list (cs.map (.int .i64))),(vs.map Val.V:D),(pa.map Th.V:D),.W 74 8 (rs.map Rgt.V),.W 76 2 [],.W 3 1 [],.v (.list (L.map (.int .u64))),.v (.list (R.map (.int .u64))),.v (.list (S.map (.int .u8)))]::
     .cells [((0:Int):D),((0:Int):D),((0:Int):D),((0:Int):D),.W 3 1 [],.W 171 3 [],.W 58 3 [],.W 74 8 [],.W 76 2 [],.W 3 1 [],.W 47 1 [],.W 47 1 [],.W 5 1 []]:: .cells [.v (.list (L.map (.int .u64))),.v (.list (R.map (.int .u64))),.v (.list (S.map (.int .u8)))]::J) (by
    intro row G n;simp only[rj]at G;rcases G with rfl|rfl|rfl|G
    .rfl
    .rfl
    .rfl
    .exact hJ row G n)
   simp at O;by_cases W:E2=0
   .subst W;rcases a6 with rfl|rfl
    .refine⟨_,_,O,?_⟩;simp[AQ,AB 61 13,AB 61 15,AA,AW 61,D.one?]
    .refine⟨_,_,O,?_⟩;simp[AQ,AB 61 13,AB 61 15,AA,AW 61,D.one?]
   .rcases a6 with rfl|rfl
    .refine⟨_,_,O,?_⟩;simp[W,AQ,AB 61 13,AB 61 14,AA,AW 61,D.one?,D.vs?,D.v?,E7,Gn]
    .refine⟨_,_,O,?_⟩;simp[W,AQ,AB 61 13,AB 61 14,AA,AW 61,D.one?,D.vs?,D.v?,E7,Gn]
  .have b0:=b1 hE;subst b0;simp[hE,AB 61 4,AQ,AA,AW 61,D.one?,D.vs?,D.v?,E7,Gn]
section
variable {ps:List V}
def Ye{bs:List Bool}(b2:ps.length<=64)(a7:bs.length=4096)(h:List Row)(x:Nat)(hx:h[x]?=some (Dw ps bs))(hl:Low h)(e0:Ext)(ht:e0.t.ok)(b4:IZ e0.t=0)(b5:e0.t.kinds ps.length=true)(c2:e0.rs.length<=2^10)(r:Rgt)(f i:Int)(hf:e0.rs.find? (λq=>q.file==f)=some r)(b3:r.dates.length <2^40)(has:YG ps.length (CV r.claims i))(O:PX 24 [(r.claims.map Clm.V:V),i] [.list ((CV r.claims i).map F.V),((0:Int):V)]):
  FX 186 [.R x 0,.v (e0.V),.v (BY (f,i))] h [.v (.bool (UA (Cj ps.length bs) e0.t r i e0.day)),((0:Int):D)] h:=by
 refine At (D6 186) rfl (ri _) hl (by simp[D.lt]) ?_;have O:=O.fsp;have W:Low (h++[.cells ((e0.cs).map .v),.cells [f,i]]):=hl.lows (by
  intro row Z n;simp only[rj,sK,or_false]at Z;rcases Z with rfl|rfl
  .exact GD n _
  .simp[Row.low,D.lts,D.lt])
 have U:IdxR Tryz.prog BK 276 [.R (h.length+1) 0] (e0.rs.map Rgt.V) (h++[.cells ((e0.cs).map .v),.cells [f,i]]) (e0.rs.findIdx? λq=>q.file==f) (h++[.cells ((e0.cs).map .v),.cells [f,i]]):=
  IdxR.map λq _=>k9 q f i _ (h.length+1) Ac W
 have a1:=lA (.func 276 [.R (h.length+1) 0]) 276 _ (FV.r 276 (h.length+1) 0 []) (e0.rs.map Rgt.V) Dd (by intro x hx;obtain⟨y,_,rfl⟩:=rl.1 hx;exact⟨_,rfl,rfl⟩) U
 obtain⟨j,a8,b0⟩:∃j,e0.rs.findIdx? (λq=>q.file==f)=some j/\e0.rs[j]?=some r:=by
  rcases Mg (λq:Rgt=>q.file==f) e0.rs with ⟨h1,h2⟩|⟨j,y,h1,h2,h3⟩
  .rw[h2]at hf;cases hf
  .rw[hf]at h3;simp only[rV]at h3;subst h3;exact⟨j,h1,h2⟩
 rw[a8]at a1;have b1:∀n,Row.low n (.cells (r.cs.map .v))=true:=λn=>by simp only[Row.low];exact Ji _
 have N:=λ(H:List Row)(hH:Low H)(b6:H[x]?=some (Dw ps bs))a4 a5 a9 d0 d1 d2 d7 d8 d9 d10 d11 d12 h4 h5 h9 Q hQ=>oS b2 a7 H x b6 hH e0.t ht b4 b5 r b3 f i e0.day a4 a5 a9 d0 d1 d2 d7 d8 d9 d10 d11 d12 h4 h5 h9 (CV r.claims i) has Q hQ;have a2:UA (Cj ps.length bs) e0.t r i e0.day=IS (Cj ps.length bs) e0.t r i e0.day 0 (CV r.claims i):=rfl;rw[a2];have G:=N (h++[.cells ((e0.cs).map .v),.cells [f,i],.cells (r.cs.map .v)]) (by have:=W.app (b1 _);simpa using this) (AU _ hx) h.length (h.length+1) (h.length+2);generalize CV r.claims i=al at*;generalize IS (Cj ps.length bs) e0.t r i e0.day 0 al=B at*;clear N a2 U has;obtain⟨b9,a6,c3,day,⟨cs,vs,pa⟩,rs,c0,c1,L0,R0,S0⟩:=e0;obtain⟨file,state,force,claims,dates,bad,owners,lics⟩:=r;simp only[Ext.V,Ext.cs,Rgt.cs,Th.cs,Th.vs,Th.ps,BY,AM]at*;simp at a1 O G;simp only[Zw,As 186,AB 186 0,AB 186 1,AZ];simp;refine⟨_,_,a1,?_⟩;simp[AB 186 2,Em,b0,Rgt.V,Rgt.cs,AM,AQ,V.getI];simp only[AB 186 3];simp;refine⟨_,_,O _,?_⟩;simp[AD,AB 186 4,AB 186 6,AB 186 7];refine G _ _ _ _ _ _ _ _ _ rfl rfl rfl rfl rfl rfl rfl rfl rfl _ ?_;intro e J he;simp[AB 186 15,he,AA,AW 186]
def nv(h:List Row)(x:Nat)(e0:Ext)(cl:List (Int×Int))(b0:cl.length<=2^20)(b:Int×Int->Bool)(W:∀c∈cl,∀Z,Lows Z->FX 186 [.R x 0,.v (e0.V),.v (BY c)] (h++ .cells ((e0.cs).map .v)::Z) [.v (.bool (b c)),((0:Int):D)] (h++ .cells ((e0.cs).map .v)::Z))(Q:AExit->St->Prop)(hQ:∀e J,AK e 12= .W 76 2 ((cl.filter b).map BY)->Q (.exit 3) ⟨e,h++ .cells ((e0.cs).map .v)::J⟩):
  AX (.loop (lG 90 1)) Q ⟨[(0,.R x 0),(3,.R h.length 0),(12,.W 76 2 []),(60,(cl.map BY:D)),(61,(cl.length:D)),(62,((0:Nat):D))],h++[.cells ((e0.cs).map .v)]⟩:=by
 refine Ag cl.length (λk s=>∃J,Lows J/\s=⟨[(0,.R x 0),(3,.R h.length 0),(12,.W 76 2 (((cl.take k).filter b).map BY)),(60,(cl.map BY:D)),(61,(cl.length:D)),(62,(k:D))],h++ .cells ((e0.cs).map .v)::J⟩)
  ⟨[],Lows.nil,Ac⟩ ?_
 rintro k s hk ⟨J,hJ,rfl⟩;rw[V4];simp only[Zw,AB 90 18];simp;by_cases G:k <cl.length
 .obtain⟨c,hc⟩:∃c,cl[k]?=some c:=⟨_,rW G⟩;have w1:=Bt k;have U:cl.take (k+1)=cl.take k++[c]:=by rw[rx,hc];rfl
  have N:∀n,Row.low n (.cells [c.1,c.2])=true:=λn=>by simp[Row.low,D.lts,D.lt]
  have q1:=W c (rY hc) (J++[.cells [c.1,c.2]]) (hJ.app N);have a6:((cl.take k).filter b).length<=k:=by have:=sZ b (cl.take k);rw[sJ]at this;omega
  rw[U,tW,uR,ug];generalize (cl.take k).filter b=L at*;have O:AV (L.length+1) 16=true:=by simp[AV];omega
  generalize b c=B at*;obtain⟨c1,c2⟩:=c;obtain⟨a7,a1,b1,day,⟨cs,vs,pa⟩,rs,c0,a8,L0,R0,S0⟩:=e0;simp only[Ext.V,Ext.cs,Th.cs,Th.vs,Th.ps,BY,AM]at*;simp at q1;rw[CF,AD];simp only[AB 90 19];simp[hc,AQ,BY];simp only[AB 90 20];simp;refine⟨_,_,q1,?_⟩;unfold ia;simp[AH,AJ,AO,AB 90 21,AD,AB 90 23];cases B with
  |false=>
   simp[AB 90 25,w1,G];exact hJ.app N
  |true=>
   simp[AB 90 24,O,AB 90 25,w1,G,BY];exact hJ.app N
 .have a2:k=cl.length:=AE;subst a2;rw[Bj,AN,sE];exact hQ _ _ rfl
def U3(h:List Row)(x:Nat)(e0:Ext)(N:e0.kind=3)(cl:List (Int×Int))(a2:cl.length<=2^20)(hl:Low h)(b:Int×Int->Bool)(U:∀Z,Lows Z->FX 185 [.R x 0,(e0.rs.map Rgt.V:D),.v e0.t.V] (h++Z) [.W 76 2 (cl.map BY),((0:Int):D)] (h++Z))(W:∀c∈cl,∀Z,Lows Z->FX 186 [.R x 0,.v (e0.V),.v (BY c)] (h++ .cells ((e0.cs).map .v)::Z) [.v (.bool (b c)),((0:Int):D)] (h++ .cells ((e0.cs).map .v)::Z)):
  FX 90 [.R x 0,.v (e0.V)] h [.W 76 2 ((cl.filter b).map BY),.W 3 1 [],((0:Int):D)] h:=by
 refine At (D6 90) rfl (ri _) hl (by simp[D.lt]) ?_;have q1:=U [.cells ((e0.cs).map .v)] (by intro row O n;rw[rm.1 O];exact GD n _)
 have G:=nv h x e0 cl a2 b W;obtain⟨a6,a1,a8,day,⟨cs,vs,pa⟩,rs,c0,a7,L0,R0,S0⟩:=e0;simp only at N;subst N;simp only[Ext.V,Ext.cs,Th.cs,Th.vs,Th.ps,AM]at*;simp[Th.V_eq,AM]at q1 G;simp only[Zw,As 90,AB 90 0,AB 90 1,AZ];simp;simp[AB 90 2,AB 90 11,AD];simp only[AB 90 12];simp;simp only[AB 90 13];simp;refine⟨_,_,q1,?_⟩;simp[AB 90 14,AB 90 16,AB 90 17];refine G _ ?_;intro e J he;simp[AB 90 26,he,AA,AW 90]
def fF(h:List Row)(hl:Low h)(e0:Ext)(a2:e0.kind=2)(hn:e0.rs.length<=2^20)(ho:∀r∈e0.rs,r.owners.length <2^40)(Q:AExit->St->Prop)(hQ:∀e J,AK e 7= .W 3 1 ((Cl e0.party e0.rs).map (.int .i64))->Q (.exit 1) ⟨e,h++ .cells ((e0.cs).map .v)::J⟩):
  AX (.loop (lG 90 0)) Q ⟨[(3,.R h.length 0),(7,.W 3 1 []),(22,(e0.rs.map Rgt.V:D)),(23,(e0.rs.length:D)),(24,((0:Nat):D))],h++[.cells ((e0.cs).map .v)]⟩:=by
 refine Ag e0.rs.length (λk s=>∃J,Lows J/\s=⟨[(3,.R h.length 0),(7,.W 3 1 ((Cl e0.party (e0.rs.take k)).map (.int .i64))),(22,(e0.rs.map Rgt.V:D)),(23,(e0.rs.length:D)),(24,(k:D))],h++ .cells ((e0.cs).map .v)::J⟩)
  ⟨[],Lows.nil,by simp[Cl]⟩ ?_
 rintro k s hk ⟨J,hJ,rfl⟩;simp only[Zw,BG 90 0,AB 90 5];simp;by_cases U:k <e0.rs.length
 .obtain⟨r,hr⟩:∃r,e0.rs[k]?=some r:=⟨_,rW U⟩;have w1:=Bt k;have a7:e0.rs.take (k+1)=e0.rs.take k++[r]:=by rw[rx,hr];rfl
  have b0:Cl e0.party (e0.rs.take (k+1))=Cl e0.party (e0.rs.take k)++if (r.owners.any λo=>o.party==e0.party) then [r.file] else []:=by rw[a7];unfold Cl;rw[tW,r9];cases h2:r.owners.any (λo=>o.party==e0.party)<;>simp[h2]
  have a6:∀n,Row.low n (.cells (r.cs.map .v))=true:=λn=>by simp only[Row.low];exact Ji _
  have b3:(Cl e0.party (e0.rs.take k)).length<=k:=by unfold Cl;have:=sZ (λr=>r.owners.any λo=>o.party==e0.party) (e0.rs.take k);rw[sJ]at this;rw[sD];omega
  have a1:Low (h++(.cells ((e0.cs).map .v)::(J++[.cells (r.cs.map .v)]))):=hl.lows (by
   intro row G n;rcases rj.1 G with rfl|G
   .exact GD n _
   .exact hJ.app a6 row G n)
  have N:IdxR Tryz.prog BK 184 [.R h.length 0] (r.owners.map Own.V) (h++(.cells ((e0.cs).map .v)::(J++[.cells (r.cs.map .v)]))) (r.owners.findIdx? λo=>o.party==e0.party) (h++(.cells ((e0.cs).map .v)::(J++[.cells (r.cs.map .v)]))):=
   IdxR.map λo _=>mr o e0.party _ h.length ((e0.cs).map .v) Ac rfl a1
  have O:=dz (.func 184 [.R h.length 0]) 184 _ (FV.r 184 h.length 0 []) (r.owners.map Own.V) (by have:=ho r (rY hr);simpa using this) (by intro x hx;obtain⟨y,_,rfl⟩:=rl.1 hx;exact⟨_,rfl,rfl⟩) N
  rw[DG]at O;rw[b0];generalize Cl e0.party (e0.rs.take k)=L at*;generalize r.owners.any (λo=>o.party==e0.party)=B at*;have W:AV (L.length+1) 8=true:=by simp[AV];omega
  clear N;obtain⟨b2,a8,pa,day,t,rs,cl,fs,L0,R0,S0⟩:=e0;obtain⟨file,state,force,claims,dates,bad,owners,lics⟩:=r;simp only at a2;subst a2;simp only[Ext.cs,Rgt.cs,AM]at*;simp at O;rw[CF,AD];simp only[AB 90 6];simp[hr,Rgt.V,Rgt.cs,AM,AQ];simp only[AB 90 7];simp;refine⟨_,_,O,?_⟩;simp;have Z:=hJ.app a6;cases B with
  |false=>
   simp[AD,AB 90 9,w1,U];exact Z
  |true=>
   simp[AB 90 8,W,AB 90 9,w1,U];exact Z
 .have b1:k=e0.rs.length:=AE;subst b1;rw[Bj,AN,sE];exact hQ _ _ rfl
def Yd(h:List Row)(W:Low h)(x:Nat)(e0:Ext)(N:e0.kind=2)(hn:e0.rs.length<=2^20)(ho:∀r∈e0.rs,r.owners.length <2^40):
  FX 90 [.R x 0,.v e0.V] h [.W 76 2 [],.W 3 1 ((Cl e0.party e0.rs).map (.int .i64)),((0:Int):D)] h:=by
 refine At (D6 90) rfl (ri _) W (by simp[D.lt]) ?_;have G:=fF h W e0 N hn ho;obtain⟨U,O,pa,day,t,rs,cl,fs,L0,R0,S0⟩:=e0;simp only at N;subst N;simp only[Ext.V,Ext.cs,AM]at*;simp at G;simp only[Zw,As 90,AB 90 0,AB 90 1,AZ];simp;simp[AB 90 2,AB 90 3,AB 90 4];refine G _ ?_;intro e J Z;simp[AB 90 10,Z,AA,AW 90]
end
def XZ{rs:List Rgt}(h:∀r∈rs,0<=r.file/\r.file<=4095):Q1 0 4095 rs=rs:=by unfold Q1;rw[List.filter_eq_self];exact λr G=>by simpa using h r G
def U2{own:List Rgt}(J:own.Pairwise λa b=>a.file≠b.file)(a b:Int):(((EK ((Ir own).E.map (·.1))).filter (Tg a b)).map (Iw (Ir own)))=(Q1 a b (Hg own)).map λr=>V.agg [(r.file:V),AM .u8 (A7 r)]:=by
 have h:=TP J;have O:=Ov own J;have N:(Ir own).E.map (·.1)=own.map Rgt.file:=by rw[O,tP];rfl
 rw[N]at h ⊢;unfold Hg at h;rw[tP]at h;have e2:(EK (own.map Rgt.file)).filter ((λr:Rgt=>decide (a<=r.file/\r.file<=b)) ∘ IG own)=(EK (own.map Rgt.file)).filter (Tg a b):=by refine List.filter_congr λk G=>?_;obtain⟨r,U,rfl⟩:=rl.1 ((u4 _ _).mem_iff.1 G);simp only[Function.comp_apply,En J U,Tg]
 unfold Q1 Hg;rw[List.filter_map,tP,e2];exact uN λk G=>List.map_inj_left.1 h k (sx.1 G).1
section
def GN{X:List V}(hX:X.length=13):∃O U W Z x4 x5 x6 x7 x8 x9 G J N,X=[O,U,W,Z,x4,x5,x6,x7,x8,x9,G,J,N]:=by
 match X,hX with
 |[O,U,W,Z,x4,x5,x6,x7,x8,x9,G,J,N],_=>exact⟨_,_,_,_,_,_,_,_,_,_,_,_,_,rfl⟩
variable {row:Row}
def QM(h:∀n,Row.low n row=true):Lows [row]:=λr G n=>by rw[rm.1 G];exact h n
def MT{G:Row}(h:∀n,Row.low n row=true)(h2:∀n,Row.low n G=true):Lows [row,G]:=λr J n=>by
 simp only[rj,sK,or_false]at J;rcases J with rfl|rfl
 .exact h n
 .exact h2 n
theorem Gb(n:Nat):Row.low n FJ=true:=rfl
theorem VF:E7.V= .agg [((0:Int):V),((0:Int):V),((0:Int):V),((0:Int):V),.list [],.list [],.list [],.list [],.list [],.list [],.list [],.list [],.list []]:=rfl
section
variable {h:List Row} (hl:Low h) {g:Nat} {X:List V} (hX:X.length=13) {E:Int}
include hl
include hX in
theorem qd(n:Int)(J:∀Z,Lows Z->FX 61 [.R g 0,Lc 0 n 0 0 (.nil 3 1) (.nil 171 3) (.nil 58 3)] (h++Z) [.v (.agg X),(E:D)] (h++Z)):
  FX 59 [.R g 0,n] h [.v (.agg X),(E:D)] h:=by
 refine At (D6 59) rfl (ri _) hl (by simp[D.lt]) ?_;have G:=J _ (QM Gb);obtain⟨W,x1,x2,x3,x4,x5,x6,x7,x8,x9,N,O,U,rfl⟩:=GN hX;simp only[Lc,FJ]at G
 try simp at G
 simp only[As 59,AH,AJ,AB 59 0,AB 59 1,AZ];simp;refine⟨_,_,G,?_⟩;simp[AQ,AA,AW 59,D.one?]
include hX in
theorem jr(J:Int)(G:LW J=0)(O:∀Z,Lows Z->FX 61 [.R g 0,Lc 2 0 J 0 (.nil 3 1) (.nil 171 3) (.nil 58 3)] (h++Z) [.v (.agg X),(E:D)] (h++Z)):
  FX 72 [.R g 0,J] h [.v (.agg X),(E:D)] h:=by
 refine At (D6 72) rfl (ri _) hl (by simp[D.lt]) ?_;unfold LW at G;have U:¬J <1:=λh=>by rw[if_pos (.inl h)]at G;cases G
 have h2:¬4095 <J:=λh=>by rw[if_pos (.inr h)]at G;cases G
 have N:=O _ (QM Gb);obtain⟨x0,x1,x2,x3,x4,x5,x6,x7,x8,x9,W,a1,a2,rfl⟩:=GN hX;simp only[Lc,FJ]at N
 try simp at N
 simp only[As 72,AH,AJ,AO,AB 72 0,AB 72 1,AZ];simp[U,h2,AD];simp only[AB 72 3];simp[AQ];refine⟨_,_,N,?_⟩;simp[AA,AW 72,D.one?]
theorem js(G:Int)(N:LW G≠0):FX 72 [.R g 0,G] h [.v E7.V,((LW G:Int):D)] h:=by
 refine At (D6 72) rfl (ri _) hl (by simp[D.lt]) ?_;rw[VF];unfold LW at*;simp only[As 72,AH,AJ,AO,AB 72 0,AB 72 1,AZ];by_cases J:G <1
 .simp[J,AB 72 2,AQ,AA,AW 72,D.one?,D.vs?,D.v?]
 .by_cases h2:4095 <G
  .simp[J,h2,AB 72 2,AQ,AA,AW 72,D.one?,D.vs?,D.v?]
  .rw[Bj]at N;exact absurd rfl N
def UC(kind d:Int)(t:Th):D:=Lc kind 0 0 d (.v (AM .i64 t.cs)) (.v (.list (t.vs.map Val.V))) (.v (.list (t.ps.map Th.V)))
include hX in
theorem dq(t:Th)(O:t.small)(J:∀Z,Lows Z->FX 61 [.R g 0,UC 1 0 t] (h++Z) [.v (.agg X),(E:D)] (h++Z)):
  FX 22 [.R g 0,.v t.V] h [.v (.agg X),(E:D)] h:=by
 refine At (D6 22) rfl (ri _) hl (by simp[D.lt]) ?_;have G:=(pj O).fsp;have N:=J _ (MT (λn=>LA n t) Gb);obtain⟨x0,x1,x2,x3,x4,x5,x6,x7,x8,x9,U,W,a1,rfl⟩:=GN hX;obtain⟨cs,vs,ps⟩:=t;simp only[UC,Lc,FJ,Th.V_eq,Th.cells,Th.cs,Th.vs,Th.ps,AM]at*;simp at G N;simp only[As 22,AH,AJ,AB 22 0,AZ];simp;simp only[AB 22 1];simp;refine⟨_,_,G _,?_⟩;simp[AQ];refine⟨_,_,N,?_⟩;simp[AA,AW 22,D.one?]
theorem lu(t:Th)(hs:t.small)(n:Int){X1 Y:List V}{E1 W:Int}(J:∀Z,Lows Z->FX 22 [.R g 0,.v t.V] (h++Z) [.v (.agg X1),(E1:D)] (h++Z))(h1:X1.length=13)(a1:E1=0->PJ n=0->∀Z,Lows Z->FX 61 [.R g 0,UC 3 n t] (h++Z) [.v (.agg Y),(W:D)] (h++Z))(hY:Y.length=13)(N:W=if E1≠0 then E1 else PJ n)(hN:W≠0->V.agg Y=E7.V):
  FX 23 [.R g 0,.v t.V,n] h [.v (.agg Y),(W:D)] h:=by
 refine At (D6 23) rfl (ri _) hl (by simp[D.lt]) ?_;have U:=(pj hs).fsp;have O:=MT (λn=>LA n t) Gb;have J:=J _ O;obtain⟨x0,x1,x2,x3,x4,x5,x6,x7,x8,x9,a2,a6,a7,rfl⟩:=GN h1;have hq:=λN hd=>a1 N hd ([.cells t.cells,FJ]++[.cells [.v x0,.v x1,.v x2,.v x3,.v x4,.v x5,.v x6,.v x7,.v x8,.v x9,.v a2,.v a6,.v a7]]) (O.app λn=>by simp[Row.low,D.lts,D.lt]);obtain⟨cs,vs,ps⟩:=t;simp only[UC,Lc,FJ,Th.V_eq,Th.cells,Th.cs,Th.vs,Th.ps,AM]at*;simp at U J hq;simp only[As 23,AH,AJ,AO,AB 23 0,AZ];simp;simp only[AB 23 1];simp;refine⟨_,_,J,?_⟩;by_cases G:E1=0
 .subst G;rw[if_neg Ac]at N;simp[AQ,AB 23 2,AD];simp only[AB 23 4];by_cases hd:PJ n=0
  .have hq:=hq rfl hd;unfold PJ at hd;have c1:¬n <0:=λh=>by rw[if_pos (.inl h)]at hd;cases hd
   have c2:¬131072 <n:=λh=>by rw[if_pos (.inr h)]at hd;cases hd
   obtain⟨y0,y1,y2,y3,y4,y5,y6,y7,y8,y9,a8,b0,b1,rfl⟩:=GN hY;simp[c1,c2];simp only[AB 23 6];simp;refine⟨_,_,U _,?_⟩;simp[AQ];refine⟨_,_,hq,?_⟩;simp[AA,AW 23,D.one?]
  .rw[hN (by rw[N];exact hd),VF,N];unfold PJ at hd ⊢;by_cases c1:n <0
   .simp[c1,AB 23 5,AQ,AA,AW 23,D.one?,D.vs?,D.v?]
   .by_cases c2:131072 <n
    .simp[c1,c2,AB 23 5,AQ,AA,AW 23,D.one?,D.vs?,D.v?]
    .rw[Bj]at hd;exact absurd rfl hd
 .rw[if_pos G]at N;subst N;rw[hN G,VF];simp[G,AQ,AB 23 2,AB 23 3,AA,AW 23,D.one?,D.vs?,D.v?]
include hX in
theorem ky(G n:Int)(t:Th)(N:G=0\/G=1\/G=2\/G=3)(O:G=0->∀Z,Lows Z->FX 59 [.R g 0,n] (h++Z) [.v (.agg X),(E:D)] (h++Z))(U:G=1->∀Z,Lows Z->FX 22 [.R g 0,.v t.V] (h++Z) [.v (.agg X),(E:D)] (h++Z))(W:G=2->∀Z,Lows Z->FX 72 [.R g 0,n] (h++Z) [.v (.agg X),(E:D)] (h++Z))(q3:G=3->∀Z,Lows Z->FX 23 [.R g 0,.v t.V,n] (h++Z) [.v (.agg X),(E:D)] (h++Z)):
  FX 27 [.R g 0,G,n,.v t.V] h [.v (.agg X),(E:D)] h:=by
 refine At (D6 27) rfl (ri _) hl (by simp[D.lt]) ?_;have J:=MT (λn=>LA n t) Gb;obtain⟨x0,x1,x2,x3,x4,x5,x6,x7,x8,x9,a1,a2,a6,rfl⟩:=GN hX;obtain⟨cs,vs,pa⟩:=t;simp only[FJ,Th.V_eq,Th.cells,Th.cs,Th.vs,Th.ps,AM]at*;simp only[Zw,As 27,AB 27 0,AZ];simp;rcases N with rfl|rfl|rfl|rfl
 .have q:=O rfl _ J
  try simp at q
  simp[AB 27 1,AB 27 2];simp only[AB 27 3];simp;refine⟨_,_,q,?_⟩;simp[AQ,AA,AW 27,D.one?]
 .have q:=U rfl _ J
  try simp at q
  simp[AB 27 1,AB 27 2,AB 27 4];simp only[AB 27 5];simp;refine⟨_,_,q,?_⟩;simp[AQ,AA,AW 27,D.one?]
 .have q:=W rfl _ J
  try simp at q
  simp[AB 27 1,AB 27 2,AB 27 4,AB 27 6];simp only[AB 27 7];simp;refine⟨_,_,q,?_⟩;simp[AQ,AA,AW 27,D.one?]
 .have q:=q3 rfl _ J
  try simp at q
  simp[AB 27 1,AB 27 2,AB 27 4,AB 27 6,AD];simp only[AB 27 8];simp;refine⟨_,_,q,?_⟩;simp[AQ,AA,AW 27,D.one?]
end
end
end Go.Va
