/- Laws, part 9. No condition. -/
import Derived.Shelf.Spec.SlicesGrow
import Derived.Test.YtopldfpkgbkomaaGreatDoorL08
set_option linter.all false
set_option maxRecDepth 100000
set_option maxHeartbeats 4000000
noncomputable section
namespace Go.Va
open Go.Proofs
def ph(l:List Clm)(J:∀c∈l,c.ok)(N:l.length<=2^40)(O:CB l=0)(i:Nat)(hi:i <l.length):PX 63 [(l.map Clm.V:V),i] [((0:Int):V)]:=by refine BS 63 ?_;have q:=(Zv l J N).fsp;rw[O]at q;have G:¬(i:Int) <0:=AE;have h2:¬((l.length:Int)<=i):=AE;have U:¬(l.length<=i):=AE;simp only[As 63,AH,AJ,AO,AB 63 0,AB 63 1,Ad];simp at q ⊢;refine⟨_,_,q _,?_⟩;simp[AD,AB 63 2,AB 63 4,G,h2,AB 63 6,AA,AW 63]
def BU(f:F):List F:=if f.op=4 then f.kids else [f]
def eN(f:F):PX 141 [f.V] [.list ((BU f).map F.V)]:=by refine BS 141 ?_;unfold BU;obtain⟨op,n,ins,kids⟩:=f;by_cases h:op=4<;>simp[As 141,awp,AB 141 0,AB 141 1,AB 141 2,AB 141 3,AW 141,Ad,F.V_eq,h,F.op,F.kids]
mutual
def F.tops:F->List F| .mk op n ins kids=>if op=5 then F.topss kids else [.mk op n ins kids]
def F.topss:List F->List F|[]=>[]|k::ks=>k.tops++F.topss ks
end
def Pe:∀l,F.topss l=l.flatMap F.tops
 |[]=>rfl
 |k::ks=>by simp[F.topss,Pe ks]
def F.tops_eq(op n:Int)(ins:List Ivl)(kids:List F):(F.mk op n ins kids).tops=if op=5 then kids.flatMap F.tops else [.mk op n ins kids]:=by rw[F.tops,Pe]
def nR(f:F)(h:List Row):FX 139 [.v f.V] h [.func 242 [.R h.length 0]] (h++[.cells f.cells]):=by refine EH 139 ?_;obtain⟨op,n,ins,kids⟩:=f;simp[As 139,awp,AB 139 0,AB 139 1,AW 139,AZ,F.V_eq,F.cells,F.op,F.n,F.ins,F.kids,D.vs?,D.v?]
def lj(x:F)(c:Nat)(h:List Row)(a:Nat)(hc:h[c]?=some (.cells [.func 243 [.R a 0,.R c 0]]))(b:Bool)(h':List Row)(J:FX 243 [.v x.V,.R a 0,.R c 0] (h++[.cells x.cells]) [(b:D)] h'):FX 244 [.v x.V,.R c 0] h [.v (.bool (!b))] h':=by
 refine EH 244 ?_;have G:=AU [.cells x.cells] hc;obtain⟨W,U,N,O⟩:=x;simp only[F.cells,F.op,F.n,F.ins,F.kids,F.V_eq]at*;simp only[As 244,AH,AJ,AB 244 0,AB 244 1,AZ];simp[G,D.vs?,D.v?];refine⟨_,_,J,?_⟩;simp[AA,AW 244]
def oN(r:Nat)(a c:Nat)(kids:List F)(hk:∀k∈kids,∀X b G J i j,a=X.length+i->c=X.length+j->RunY Tryz.prog BK r (k.tops.map F.V) X b G->J[i]?=some (.cells [.yld r])->J[j]?=some (.cells [.func 243 [.R a 0,.R c 0]])->
   ∃O,FX 243 [.v k.V,.R a 0,.R c 0] (X++J) [(b:D)] (G++(J++O))):
  ∀(X:List Row)(b:Bool)(G:List Row)(J:List Row)(i j:Nat),a=X.length+i->c=X.length+j->RunY Tryz.prog BK r ((kids.flatMap F.tops).map F.V) X b G->J[i]?=some (.cells [.yld r])->J[j]?=some (.cells [.func 243 [.R a 0,.R c 0]])->
   ∃O q,IdxR Tryz.prog BK 244 [.R c 0] (kids.map F.V) (X++J) q (G++(J++O))/\q.isSome= !b:=by
 induction kids with
 |nil=>
  rintro X b G J i j Z hc ⟨rfl,rfl⟩ hi N;exact⟨[],none,⟨rfl,Ac⟩,rfl⟩
 |cons k ks ih=>
  intro X b G J i j Z hc hr hi N;rw[r7,r9]at hr;obtain⟨W,X1,h1,h2⟩:=hr.app;have hl:=h1.len;obtain⟨U,hp⟩:=hk k Ac X W X1 (J++[.cells k.cells]) i j Z hc h1 (AU _ hi) (AU _ N);have a1:(X++J)[c]?=some (.cells [.func 243 [.R a 0,.R c 0]]):=by rw[BQ X J c j hc];exact N
  rw[<-rn]at hp;have hq:=lj k c (X++J) a a1 W _ hp;cases W with
  |true=>
   simp only[if_true]at h2;obtain⟨J2,q,h3,h4⟩:=ih (λx hx=>hk x (by simp[hx])) X1 b G (J++[.cells k.cells]++U) i j (by rw[hl];exact Z) (by rw[hl];exact hc) h2 (AU _ (AU _ hi)) (AU _ (AU _ N));refine⟨[.cells k.cells]++U++J2,q.map (· +1),⟨false,_,hq,?_⟩,by cases q<;>simpa using h4⟩
   simp only[rz,if_false];refine⟨q,?_,rfl⟩;simpa[rn]using h3
  |false=>
   simp only[rz,if_false]at h2;obtain⟨rfl,rfl⟩:=h2;refine⟨[.cells k.cells]++U,some 0,⟨true,_,hq,?_⟩,rfl⟩;simp[rn]
def lk(r:Nat)(a c:Nat):∀f:F,f.ok->∀X b O J i j,a=X.length+i->c=X.length+j->RunY Tryz.prog BK r (f.tops.map F.V) X b O->J[i]?=some (.cells [.yld r])->J[j]?=some (.cells [.func 243 [.R a 0,.R c 0]])->
   ∃J',FX 243 [.v f.V,.R a 0,.R c 0] (X++J) [(b:D)] (O++(J++J')):=by
 refine F.ind λop n ins kids ih W=>?_;intro X b O J i j ha hc Z hi hj;have a6:=W.2;rw[F.size_eq]at a6;have a8:=F.kids_len kids;rw[F.tops_eq]at Z;have ga:(X++(J++[.cells (F.mk op n ins kids).cells]))[a]?=some (.cells [.yld r]):=by rw[BQ X _ a i ha];exact AU _ hi
 have gf:(X++(J++[.cells (F.mk op n ins kids).cells]))[X.length+J.length]?=some (.cells (F.mk op n ins kids).cells):=by rw[BQ X _ _ J.length rfl];simp
 have G:∀x∈kids.map F.V,∃cs,x=V.agg cs/\cs.length=4:=by intro x hx;obtain⟨k,_,rfl⟩:=rl.1 hx;obtain⟨ko,kn,ki,kk⟩:=k;exact⟨_,F.V_eq ..,rfl⟩
 by_cases N:op=5
 .rw[if_pos N]at Z;obtain⟨J3,q,U,hq⟩:=oN r a c kids (λk hk=>ih k hk (F.ok_kid W hk)) X b O (J++[.cells (F.mk op n ins kids).cells]) i j ha hc Z (AU _ hi) (AU _ hj);have hp:=W9 (.func 244 [.R c 0]) 244 [.R c 0] (FV.r 244 c 0 []) (kids.map F.V) Dd G U;refine⟨[.cells (F.mk op n ins kids).cells]++J3,EH 243 ?_⟩;simp only[F.cells,F.op,F.n,F.ins,F.kids,F.V_eq]at*;simp only[As 243,AH,AJ,AO,AB 243 0,AB 243 1,AZ];simp[N,AD];simp[N]at gf;simp[D.vs?,D.v?,AB 243 3];simp[N]at hp;rw[hq]at hp;refine⟨_,_,hp,?_⟩;simp[AA,AW 243]
 .rw[if_neg N]at Z;obtain⟨b1,X1,hl,hy,a1⟩:=Z;obtain⟨J2,a7⟩:=hy (J++[.cells (F.mk op n ins kids).cells]);have a2:b=b1/\O=X1:=by
   cases b1 with
   |true=>exact a1
   |false=>exact a1
  obtain⟨rfl,rfl⟩:=a2;refine⟨[.cells (F.mk op n ins kids).cells]++J2,EH 243 ?_⟩;simp only[F.cells,F.op,F.n,F.ins,F.kids,F.V_eq]at*;simp only[As 243,AH,AJ,AO,AB 243 0,AB 243 1,AZ];simp[-Bool.exists_bool];simp[N,AB 243 2,-Bool.exists_bool];simp[ga,-Bool.exists_bool];refine⟨_,_,a7,?_⟩;simp[AA,AW 243]
def lm(f:F)(O:f.ok)(r q:Nat)(X:List Row)(b:Bool)(N:List Row)(hr:RunY Tryz.prog BK r (f.tops.map F.V) X b N)(Z:X[q]?=some (.cells f.cells)):
  ∃J,FX 242 [.yld r,.R q 0] X [] (N++J):=by
 obtain⟨U,W⟩:=lk r X.length (X.length+1) f O X b N [.cells [.yld r],.cells [.func 243 [.R X.length 0,.R (X.length+1) 0]]] 0 1 rfl rfl hr rfl rfl;refine⟨[.cells [.yld r],.cells [.func 243 [.R X.length 0,.R (X.length+1) 0]]]++U,EH 242 ?_⟩;obtain⟨op,n,ins,kids⟩:=f;have G:=AU [.cells [.yld r],.cells [.func 243 [.R X.length 0,.R (X.length+1) 0]]] Z;simp only[F.cells,F.op,F.n,F.ins,F.kids,F.V_eq]at*;simp only[As 242,AH,AJ,AB 242 0,AB 242 1,AB 242 2,AB 242 3,AZ];simp[AQ,D.v?]
 try simp at G
 simp[G];exact⟨⟨_,W⟩,rfl⟩
def kA(l:List Int)(n:Int)(hn:l.length<=2^40):PX 337 [AM .i64 l,n] [((Em (l.findIdx? λx=>n==x):Int):V)]:=by
 refine BS 337 ?_;obtain⟨R,W⟩:∃R,Em (l.findIdx? λx=>n==x)=R:=⟨_,rfl⟩;rw[W];simp only[As 337,AH,AJ,AY,AB 337 0,AB 337 1,Ad];simp[AM];refine Aw l.length (λk=>⟨[(0,.v (AM .i64 l)),(1,(n:D)),(7,(l.length:D)),(8,(k:D))],[]⟩) (λk=>Em (((l.drop k).findIdx? λx=>n==x).map (· +k))=R) (by simp[AM]) (by simpa using W) ?_;intro k hk G;simp only[Zw,BG 337 0,AB 337 2];simp[AM];by_cases U:k <l.length
 .obtain⟨x,hx⟩:∃x,l[k]?=some x:=⟨_,rW U⟩;have hw:=Bt k;rw[E0 hx,tO]at G;rw[CF,AD];simp only[AB 337 3,AB 337 4];simp[hx];by_cases J:n=x
  .subst J;simp[Em]at G;simp[AB 337 5,AA,AW 337,G]
  .have Z:(n==x)=false:=by simp[J]
   rw[Z]at G;have N:Em (((l.drop (k+1)).findIdx? λx=>n==x).map (· +(k+1)))=R:=by
    rw[<-G];cases (l.drop (k+1)).findIdx? λx=>n==x with
    |none=>rfl
    |some j=>simp[Em];omega
   simp[J,AD,AB 337 6,hw,U];exact N
 .have O:k=l.length:=AE;subst O;simp[Em]at G;rw[Bj,AN];simp[AA,AB 337 7,AW 337,G]
def kN(l:List Int)(n:Int)(N:l.length<=2^40):PX 316 [AM .i64 l,n] [.bool (l.any λx=>n==x)]:=by
 refine BS 316 ?_;have q:=(kA l n N).fsp;have G:=Sn (l.findIdx? λx=>n==x);rw[DG]at G;generalize Em (l.findIdx? λx=>n==x)=I at*;generalize (l.any λx=>n==x)=B at*;simp only[As 316,AH,AJ,AB 316 0,AB 316 1,Ad];simp[AM]at q ⊢;refine⟨_,_,q _,?_⟩;simp[AA,AW 316,Cf];by_cases J:0<=I
 .simp[J,G.1 J]
 .cases B with
  |false=>simp[J]
  |true=>exact absurd (G.2 rfl) J
def Dz(r:Rgt):List Int:=if r.force=0 then ((List.range r.claims.length).map λ(i:Nat)=>(i:Int)).filter λi=> !(r.bad.any λx=>i==x) else []
def lC(r:Rgt)(Z:r.claims.length<=2^30)(h2:r.bad.length<=2^40):PX 273 [r.V] [AM .i64 (Dz r)]:=by
 refine BS 273 ?_;unfold Dz;obtain⟨file,state,force,claims,dates,bad,owners,lics⟩:=r;simp only at Z h2 ⊢;simp only[Zw,As 273,AB 273 0,AB 273 1,AB 273 2,Ad];simp[Rgt.V,Rgt.cs,AM];by_cases O:force=0
 .subst O;obtain⟨P,hP⟩:∃P:Int->Bool,(λi=> !(bad.any λx=>i==x))=P:=⟨_,rfl⟩;simp[AD,AB 273 4];refine Ab claims.length (λk=>⟨[(1,.R 0 0),(3,.W 3 1 ((((List.range k).map λ(i:Nat)=>(i:Int)).filter λi=> !(bad.any λx=>i==x)).map (.int .i64))),(11,(claims.length:D)),(12,(k:D))],
   [.cells ((Rgt.cs ⟨file,state,0,claims,dates,bad,owners,lics⟩).map .v)]⟩) (by simp[Rgt.cs,AM]) ?_
  intro k hk;simp only[Zw,BG 273 0,AB 273 5];simp[Rgt.cs,AM];by_cases J:k <claims.length
  .have W:=Bt k;have q:=(kN bad k h2).fsp;rw[CF,AD];have U:(((List.range k).map λ(i:Nat)=>(i:Int)).filter λi=> !(bad.any λx=>i==x)).length<=k:=by have:=sZ (λi=> !(bad.any λx=>i==x)) ((List.range k).map λ(i:Nat)=>(i:Int));simpa using this
   have hs:(((List.range (k+1)).map λ(i:Nat)=>(i:Int)).filter λi=> !(bad.any λx=>i==x))=(((List.range k).map λ(i:Nat)=>(i:Int)).filter λi=> !(bad.any λx=>i==x))++(if (bad.any λx=>(k:Int)==x) then [] else [(k:Int)]):=by
    rw[tF,r9,tW]
    congr 1
    simp only[rq,sq,uR,ug];cases (bad.any λx=>(k:Int)==x)<;>rfl
   rw[hs];generalize (((List.range k).map λ(i:Nat)=>(i:Int)).filter λi=> !(bad.any λx=>i==x))=L at*;generalize (bad.any λx=>(k:Int)==x)=B at*;have G:AV (L.length+1) 8=true:=by simp[AV];omega
   simp[AM]at q;simp only[AB 273 6,AB 273 7];simp;refine⟨_,_,q _,?_⟩;cases B with
   |true=>simp[AD,AB 273 9,W,J]
   |false=>simp[AB 273 8,G,AB 273 9,W,J]
  .have N:k=claims.length:=AE;subst N;rw[Bj,AN];simp[AA,AB 273 10,AW 273]
 .simp[O,AB 273 3,AA,AW 273]
section
def Eb:Nat->List V->List (V×V)
 |_,[]=>[]
 |k,v::vs=>(.int .i64 k,v)::Eb (k+1) vs
def EQ(vs:List V):Row:= .map (Eb 0 vs) (List.range vs.length) vs.length
def Qf(v:V):∀(vs:List V)(k:Nat),Eb k (vs++[v])=Eb k vs++[((((k+vs.length:Nat):Int):V),v)]
 |[],k=>rfl
 |x::vs,k=>by simp only[sw,Eb,Qf v vs (k+1),sF];rw[show k+1+vs.length=k+(vs.length+1) by omega]
def IK:∀(vs:List V)(k i:Nat)(v:V),vs[i]?=some v->(Eb k vs)[i]?=some ((((k+i:Nat):Int):V),v)
 |x::vs,k,0,v,h=>by simp at h;subst h;rfl
 |x::vs,k,i+1,v,h=>by simp only[Eb,tf];rw[IK vs (k+1) i v (by simpa using h),show k+1+i=k+(i+1) by omega]
def H8(st:Bool)(a:Int):∀(vs:List V)(k:Nat),Cr false [0] (a:V) (Eb k vs)=some (if (k:Int)<=a/\a <k+vs.length then some (a-k).toNat else none)
 |[],k=>by rw[if_neg Ac];rfl
 |x::vs,k=>by
  have J:Be false [0] (k:V)=true:=by simp[Be,V.eqL,V.eq1,V.cells]
  simp only[Eb,Cr,J,if_true,V.cells,V.eqL,V.eq1,uP,H8 st a vs (k+1),sF];by_cases h:a=k
  .subst h;simp;omega
  .have h2:(a==(k:Int))=false:=by simp[h]
   simp only[h2];by_cases G:((k+1:Nat):Int)<=a/\a <((k+1:Nat):Int)+vs.length
   .rw[if_pos G,CF];simp;omega
   .rw[if_neg G,Bj];rfl
def QH(vs:List V)(v:V):Row.map (Eb 0 vs++[(((vs.length:Nat):V),v)]) (List.range vs.length++[vs.length]) (vs.length+1)=EQ (vs++[v]):=by unfold EQ;rw[Qf,re,u6,tF,tI]
def B9(acc:List F)(c:Clm):F:=if c.refs=[] then c.body else .mk 4 0 [] [c.body,.mk 5 0 [] (c.refs.map λr=>(acc[r.toNat]?).getD c.body)]
def Ax(l:List Clm):List F:=l.foldl (λacc c=>acc++[B9 acc c]) []
def CW(l:List Clm):(Ax l).length=l.length:=by
 have:∀(l:List Clm)(acc:List F),(l.foldl (λacc c=>acc++[B9 acc c]) acc).length=acc.length+l.length:=by
  intro l;induction l with
  |nil=>simp
  |cons c l ih=>intro acc;rw[uG,ih];simp;omega
 have h:=this l [];rw[t6,tI]at h;exact h
def RO(l:List Clm)(c:Clm):Ax (l++[c])=Ax l++[B9 (Ax l) c]:=by unfold Ax;rw[tq];rfl
variable {k:Nat}
def Fo(l:List Clm){c:Clm}(h:l[k]?=some c):Ax (l.take (k+1))=Ax (l.take k)++[B9 (Ax (l.take k)) c]:=by rw[rx,h];exact RO _ _
def Cn(l:List Clm):∀k,k<=l.length->Ax (l.take k)=(Ax l).take k:=by
 have:∀(l m:List Clm),(Ax (l++m)).take l.length=Ax l:=by
  intro l m;unfold Ax;rw[tq];have:∀(m:List Clm)(acc:List F),∃t,m.foldl (λacc c=>acc++[B9 acc c]) acc=acc++t:=by
   intro m;induction m with
   |nil=>intro acc;exact⟨[],Ac⟩
   |cons c m ih=>
    intro acc;obtain⟨t,G⟩:=ih (acc++[B9 acc c]);exact⟨[B9 acc c]++t,by rw[uG,G];simp⟩
  obtain⟨t,G⟩:=this m (l.foldl (λacc c=>acc++[B9 acc c]) []);rw[G];have:=CW l;unfold Ax at this;rw[tg AE,sN AE]
 intro k J;have h:=this (l.take k) (l.drop k);rw[sa]at h;rw[<-h,sJ,tY J]
def Ak(l:List Clm)(i:Int):F:=((Ax l)[i.toNat]?).getD (.mk 0 0 [] [])
end
def fq(X:List Row)(mx:Nat)(acc:List F)(a6:X[mx]?=some (EQ (acc.map F.V)))(C Fr:Row)(refs:List Int)(G:∀r∈refs,0<=r/\r <acc.length)(hn:refs.length<=8)(df:F)(v6 O v20 U:V)(a7 a8:Nat)(Q:AExit->St->Prop)(hQ:∀e J,AK e 5= .mr mx->AK e 6= .v v6->AK e 7= .R a7 0->AK e 8= .R a8 0->AK e 9=(true:D)->AK e 10= .R (X.length+2) 0->AK e 19= .v O->AK e 20= .v v20->AK e 21= .v U->
   Q (.exit 2) ⟨e,X++(C::Fr:: .cells [((5:Int):D),((0:Int):D),.W 368 8 [],.W 84 4 ((refs.map λr=>(acc[r.toNat]?).getD df).map F.V)]::J)⟩):
  AX (.loop (lG 317 1)) Q ⟨[(5,.mr mx),(6,.v v6),(7,.R a7 0),(8,.R a8 0),(9,(true:D)),(10,.R (X.length+2) 0),(19,.v O),(20,.v v20),(21,.v U),(34,.v (AM .i64 refs)),(35,(refs.length:D)),(36,((0:Nat):D))],
   X++[C,Fr,.cells [((5:Int):D),((0:Int):D),.W 368 8 [],.W 84 4 []]]⟩:=by
 refine Ag refs.length (λk s=>∃J,s=⟨[(5,.mr mx),(6,.v v6),(7,.R a7 0),(8,.R a8 0),(9,(true:D)),(10,.R (X.length+2) 0),(19,.v O),(20,.v v20),(21,.v U),(34,.v (AM .i64 refs)),(35,(refs.length:D)),(36,(k:D))],
   X++(C::Fr:: .cells [((5:Int):D),((0:Int):D),.W 368 8 [],.W 84 4 (((refs.take k).map λr=>(acc[r.toNat]?).getD df).map F.V)]::J)⟩) ⟨[],Ac⟩ ?_
 rintro k s hk ⟨J,rfl⟩;simp only[Zw,BG 317 1,AB 317 9];simp[AM];by_cases a1:k <refs.length
 .obtain⟨r,hr⟩:∃r,refs[k]?=some r:=⟨_,rW a1⟩;have b1:=G r (rY hr);obtain⟨g,hg⟩:∃g,acc[r.toNat]?=some g:=⟨_,rW AE⟩;have Bz:∀Z,(X++Z)[mx]?=some (.map (Eb 0 (acc.map F.V)) (List.range (acc.map F.V).length) (acc.map F.V).length):=λZ=>AU Z a6;have hf:Cr false [0] (.int .i64 r) (Eb 0 (acc.map F.V))=some (some r.toNat):=by rw[H8 false,if_pos Dd];simp
  have W:(Eb 0 (acc.map F.V))[r.toNat]?=some (.int .i64 r,g.V):=by have:=IK (acc.map F.V) 0 r.toNat g.V (by simp[hg]);rw[this];simp;omega
  have w1:=Bt k;have N:AV (k+1) 64=true:=by simp[AV];omega
  have hm:min k refs.length=k:=AE;have b0:(refs.map (F.V ∘ λr=>acc[r.toNat]?.getD df)).take (k+1)=(refs.map (F.V ∘ λr=>acc[r.toNat]?.getD df)).take k++[g.V]:=by rw[rx,rk,hr];simp[hg]
  rw[b0];obtain⟨go,gn,gi,gk⟩:=g;simp only[F.V_eq]at W;rw[CF,AD];simp only[AB 317 10,AB 317 11];simp[hr,Bz,Be,V.eqL,V.eq1,hf,W,Da];simp[AQ,AB 317 12,hm,N,AB 317 13,w1,a1,F.V_eq]
 .have a2:k=refs.length:=AE;subst a2;rw[Bj,AN];change Q (.exit 2) _;rw[sN Ac,<-tP];refine hQ _ J ?_ ?_ ?_ ?_ ?_ ?_ ?_ ?_ ?_<;>rfl
structure MeanOK (T:List Clm):Prop where
 len:T.length<=32
 ok:∀c∈T,Clm.ok c
 refs:∀c∈T,c.refs.length<=8
 low:∀(k:Nat)(c:Clm),T[k]?=some c->∀r∈c.refs,0<=r/\r <k
 mean:∀f∈Ax T,f.ok/\A6 f=0
def OA:AC:=(.seq (.reg (oG 317 15) [5,6,8,19,20,21,67]) (.cond (.t 67 false) (.reg (oG 317 16) [5,19,20,21]) .skip))
def ZF:AC:=(.seq (.seq (.reg (oG 317 6) [5,6,7,8,9,19,20,21,31]) (.cond (.t 31 false) (.seq (.reg (oG 317 7) [5,6,7,8,9,10,19,20,21]) (.seq (.seq (.reg (oG 317 8) [5,6,7,8,9,10,19,20,21,34,35,36]) (.block 2 (.loop (lG 317 1)))) (.reg (oG 317 14) [5,6,8,9,19,20,21]))) .skip)) OA)
def T2:(lG 317 0)=(.seq (.reg (oG 317 3) [5,19,20,21,22]) (.seq (.cond (.t 22 false) .skip (.exit 0)) (.seq (.block 1 (.seq (.reg (oG 317 4) [5,6,7,19,20,21]) (.seq (.reg (oG 317 5) [5,6,7,8,9,19,20,21]) ZF))) (.reg (oG 317 17) [5,19,20,21])))):=(BG 317 0 :)
def fg(h:List Row)(acc:List F)(f:F)(hf:f.ok/\A6 f=0)(k:Nat)(hk:acc.length=k)(U v20:V)(J:List Row)(a8:Nat)(Q:AExit->St->Prop)(hQ:∀e J,AK e 5= .mr h.length->AK e 19= .v U->AK e 20= .v v20->AK e 21=(k:D)->Q .normal ⟨e,h++EQ ((acc++[f]).map F.V)::J⟩)(ds:List D)(N:ds.map D.copy=[(f.op:D),(f.n:D),(f.ins.map Ivl.V:D),(f.kids.map F.V:D)])(Z:(h++EQ (acc.map F.V)::J)[a8]?=some (.cells ds)):
  ∀e,AK e 5= .mr h.length->AK e 6=(k:D)->AK e 8= .R a8 0->AK e 9=(true:D)->AK e 19= .v U->AK e 20= .v v20->AK e 21=(k:D)->
   AX OA Q ⟨e,h++EQ (acc.map F.V)::J⟩:=by
 intro e f5 f6 f8 f9 f19 f20 W;have q:=(cE f hf.1).fsp;rw[hf.2]at q;have a1:Cr false [0] (k:V) (Eb 0 (acc.map F.V))=some none:=by rw[H8 false,if_neg Dd]
 have G:=QH (acc.map F.V) f.V;rw[<-List.map_singleton (f:=F.V),<-r9,sD,hk]at G;have a2:EQ (acc.map F.V)= .map (Eb 0 (acc.map F.V)) (List.range k) k:=by unfold EQ;rw[sD,hk]
 rw[a2]at Z ⊢;obtain⟨op,n,ins,kids⟩:=f;simp only[F.V_eq,F.op,F.n,F.ins,F.kids]at q N G;have O:ds.length=4:=by have:=congrArg List.length N;simpa using this
 simp only[OA,AH,AJ,AO,AB 317 15];simp[f8,f9,Z,N,O]at q ⊢;refine⟨_,_,q _,?_⟩;simp[AB 317 16,f5,f6,f8,f19,f20,W,Z,N,O,Be,V.eqL,V.eq1,a1];rw[G];exact hQ _ _ rfl rfl rfl rfl
section
def BY(p:Int×Int):V:= .agg [.int .i64 p.1,.int .i64 p.2]
def CJ(I:Int->Int->Bool)(t:Th)(r:Rgt):List (Int×Int):=((Dz r).filter λi=>(Ak r.claims i).hold I t).map λi=>(r.file,i)
def BX(I:Int->Int->Bool)(t:Th)(rs:List Rgt):List (Int×Int):=rs.flatMap (CJ I t)
def Jj{r:Rgt}{i:Int}(h:i∈Dz r):0<=i/\i <r.claims.length:=by
 unfold Dz at h;split at h
 .obtain⟨k,G,rfl⟩:=rl.1 (sx.1 h).1;have:=sM.1 G;omega
 .cases h
def Fh(r:Rgt):(Dz r).length<=r.claims.length:=by
 unfold Dz;split
 .have:=sZ (λi=> !(r.bad.any λx=>i==x)) ((List.range r.claims.length).map λ(i:Nat)=>(i:Int));simpa using this
 .simp
structure Rgt.fine (nc:Int) (r:Rgt):Prop where
 bad:r.bad.length<=2^40
 mean:MeanOK r.claims
 z:CB r.claims=0
 cls:∀f∈Ax r.claims,f.nodes.all (Hi nc)=true
def Rgt.fine.meanAt{nc:Int}{r:Rgt}(h:r.fine nc){i:Int}(hi:0<=i/\i <r.claims.length):Ak r.claims i∈Ax r.claims:=by unfold Go.Va.Ak;have G:=CW r.claims;have hx:(Ax r.claims)[i.toNat]?=some (Ax r.claims)[i.toNat]:=rW AE;rw[hx];exact sy _
variable {nc:Int}
def Rgt.fine.hld{r:Rgt}(h:r.fine nc){i:Int}(hi:0<=i/\i <r.claims.length){t:Th}(O:IZ t=0)(N:t.kinds nc=true):Cq nc (Go.Va.Ak r.claims i) t=0:=by have G:=h.meanAt hi;unfold Cq;rw[(h.mean.mean _ G).2,O,h.cls _ G,N];rfl
def Lows(J:List Row):Prop:=∀row∈J,∀n,Row.low n row=true
theorem Lows.nil:Lows []:=λrow h=>by cases h
variable {row:Row} {J:List Row}
def Lows.app(h:Lows J)(G:∀n,row.low n=true):Lows (J++[row]):=by
 intro x hx n;rcases rp.1 hx with hx|hx
 .exact h x hx n
 .rw[rm.1 hx];exact G n
variable {h:List Row}
theorem Low.lows(N:Low h)(G:Lows J):Low (h++J):=N.apps λrow O=>G row O _
end
open Go.Proofs
open Go.Proofs
mutual
def Th.size:Th->Nat| .mk _ _ ps=>1+Th.sizes ps
def Th.sizes:List Th->Nat|[]=>0|k::ks=>k.size+Th.sizes ks
end
mutual
def Th.depth:Th->Nat| .mk _ _ ps=>Th.depths ps+1
def Th.depths:List Th->Nat|[]=>0|k::ks=>max k.depth (Th.depths ks)
end
def Th.size_pos(t:Th):1<=t.size:=by cases t;rw[Th.size];omega
variable {k:Nat}
def Th.sizes_take{l:List Th}{x:Th}(hx:l[k]?=some x):Th.sizes (l.take (k+1))=Th.sizes (l.take k)+x.size/\Th.depths (l.take (k+1))=max (Th.depths (l.take k)) x.depth/\Th.sizes (l.take (k+1))<=Th.sizes l:=by
 induction l generalizing k with
 |nil=>simp at hx
 |cons y l ih=>
  cases k with
  |zero=>simp at hx;subst hx;simp[Th.sizes,Th.depths]
  |succ k=>simp at hx;have:=ih hx;simp only[vG,Th.sizes,Th.depths];omega
def Th.sizes_le{l:List Th}{x:Th}(hx:x∈l):x.size<=Th.sizes l:=by
 induction l with
 |nil=>cases hx
 |cons y l ih=>
  rw[Th.sizes];cases hx with
  |head=>omega
  |tail _ h=>have:=ih h;omega
theorem Th.depths_le(l:List Th)(h:∀x∈l,x.depth<=x.size):Th.depths l<=Th.sizes l:=by
 induction l with
 |nil=>simp[Th.depths]
 |cons k ks ih=>
  have:=h k Ac;have:=ih λx hx=>h x (by simp[hx]);simp only[Th.depths,Th.sizes];omega
def Th.depth_le:∀t:Th,t.depth<=t.size:=by refine Th.ind λcs vs ps G=>?_;have:=Th.depths_le ps G;rw[Th.size,Th.depth];omega
theorem Th.len_le(l:List Th):l.length<=Th.sizes l:=by
 induction l with
 |nil=>simp
 |cons k ks ih=>have:=k.size_pos;simp only[Th.sizes,sF];omega
def Th.nds_of(l:List Th)(h:∀x∈l,∀G lf:Int,x.nd G lf=if G+x.depth<=9/\x.size<=lf then lf-x.size else -1):∀G lf:Int,G<=9->0<=lf->Th.nds l G lf=if G+Th.depths l<=9/\Th.sizes l<=lf then lf-Th.sizes l else -1:=by
 induction l with
 |nil=>intro G lf J h2;simp[Th.nds,Th.depths,Th.sizes,J,h2]
 |cons x xs ih=>
  intro G lf J h2;have hx:=h x Ac G lf;have Z:=x.size_pos;rw[Th.nds,hx];have W:Th.depths (x::xs)=max x.depth (Th.depths xs):=rfl;have e2:Th.sizes (x::xs)=x.size+Th.sizes xs:=rfl;by_cases N:G+x.depth<=9/\x.size<=lf
  .rw[if_pos N,if_neg AE,ih (λy U=>h y (by simp[U])) G _ J AE];by_cases O:G+Th.depths xs<=9/\Th.sizes xs<=lf-x.size
   .rw[if_pos O,CF];omega
   .rw[if_neg O,Bj]
  .rw[if_neg N,CF,Bj]
def Th.nd_of:∀(t:Th)(G lf:Int),t.nd G lf=if G+t.depth<=9/\t.size<=lf then lf-t.size else -1:=by
 refine Th.ind λcs vs ps O G lf=>?_;rw[Th.nd,Th.size,Th.depth];by_cases J:8 <G\/lf <1
 .rw[if_pos J,Bj]
 .rw[if_neg J,Th.nds_of ps O _ _ AE AE];by_cases N:G+1+Th.depths ps<=9/\Th.sizes ps<=lf-1
  .rw[if_pos N,CF];omega
  .rw[if_neg N,Bj]
def Oo(t:Th):RS t=decide (t.depth<=8/\t.size<=96):=by
 have:=t.size_pos;unfold RS;rw[t.nd_of];by_cases c:t.depth<=8/\t.size<=96
 .rw[CF];simp[c];omega
 .rw[Bj];simp;omega
theorem me:∀t:Th,t.size<=2^40->PX 195 [t.V] [(t.size:V)]:=by
 refine Th.ind λcs vs ps ih N=>?_;refine BS 195 ?_;rw[Th.size]at N ⊢;have Z:=Th.len_le ps;simp only[As 195,AH,AJ,AY,AB 195 0,AB 195 1,AB 195 2,Ad];simp[Th.V_eq];refine Ab ps.length (λk=>⟨[(1,.R 0 0),(3,((1+Th.sizes (ps.take k):Nat):D)),(4,(k:D))],[.cells (Th.mk cs vs ps).cells]⟩) (by simp[Th.cells,Th.cs,Th.vs,Th.ps,Th.sizes]) ?_;intro k hk;simp only[Zw,BG 195 0,AB 195 3,Th.cells,Th.cs,Th.vs,Th.ps];simp;by_cases U:k <ps.length
 .obtain⟨x,hx⟩:∃x,ps[k]?=some x:=⟨_,rW U⟩;have G:=rY hx;have hw:=Bt k;have a1:=Th.sizes_le G;have W:=(ih x G AE).fsp;obtain⟨t1,_,t3⟩:=Th.sizes_take hx;have O:IntKind.i64.wrap (1+(Th.sizes (ps.take k):Int)+x.size)=1+(Th.sizes (ps.take (k+1)):Int):=by rw[AS AE AE];omega
  rw[CF,AD];simp only[AB 195 4,AB 195 5];obtain⟨xc,xv,xp⟩:=x;simp[Th.V_eq]at W;simp[hx,Th.V_eq];refine⟨_,_,W _,?_⟩;simp[hw,O,U]
 .have J:k=ps.length:=AE;subst J;rw[Bj,AN];simp[AA,AB 195 6,AW 195]
theorem mc:∀t:Th,t.size<=2^40->PX 196 [t.V] [(t.depth:V)]:=by
 refine Th.ind λcs vs ps ih N=>?_;refine BS 196 ?_;rw[Th.size]at N;have a1:=Th.len_le ps;have Z:=Th.depths_le ps λx _=>x.depth_le;simp only[As 196,AH,AJ,AY,AB 196 0,AB 196 1,AB 196 2,Ad];simp[Th.V_eq];refine Ab ps.length (λk=>⟨[(1,.R 0 0),(3,((Th.depths (ps.take k):Int):D)),(4,(k:D))],[.cells (Th.mk cs vs ps).cells]⟩) (by simp[Th.cells,Th.cs,Th.vs,Th.ps,Th.depths]) ?_;intro k hk;simp only[Zw,BG 196 0,AB 196 3,Th.cells,Th.cs,Th.vs,Th.ps];simp;by_cases U:k <ps.length
 .obtain⟨x,hx⟩:∃x,ps[k]?=some x:=⟨_,rW U⟩;have G:=rY hx;have hw:=Bt k;have a2:=Th.sizes_le G;have W:=(ih x G AE).fsp;obtain⟨_,ht,_⟩:=Th.sizes_take hx;rw[CF,AD];simp only[AB 196 4,AB 196 5];obtain⟨xc,xv,xp⟩:=x;simp[Th.V_eq]at W;simp[hx,Th.V_eq];refine⟨_,_,W _,?_⟩;simp[hw,U,ht];split<;>omega
 .have J:k=ps.length:=AE;subst J;rw[Bj,AN];have O:IntKind.i64.wrap ((Th.depths ps:Int)+1)=Th.depths ps+1:=AS AE AE;simp[AA,AB 196 6,AW 196,O,Th.depth]
def oL(m:Nat):∀(a b:Int),b<=m->0<=a->0<=b->a<=2^62->b<=2^62->
  AX (.loop (lG 319 0)) (λe s=>e= .exit 0/\AK s.e 0=((Int.gcd a b:Int):D)) ⟨[(0,(a:D)),(1,(b:D))],[]⟩:=by
 induction m with
 |zero=>
  intro a b hb N h2 Z O;have:b=0:=AE;subst this;refine Av ?_;simp only[Zw,BG 319 0,AB 319 1];simp[AN];omega
 |succ m ih=>
  intro a b hb N h2 Z O;by_cases W:b=0
  .exact ih a b AE N h2 Z O
  .have e:a.tmod b=a%b:=vH N;have a1:=Int.emod_lt_of_pos a (show 0 <b by omega);have U:=Int.emod_nonneg a W;have G:=ih b (a%b) AE h2 U O AE;have e2:Int.gcd b (a%b)=Int.gcd a b:=by rw[<-e];unfold Int.gcd;rw[Int.natAbs_tmod,Nat.gcd_comm,<-Nat.gcd_rec,Nat.gcd_comm]
   rw[e2]at G;refine Bu ?_ G;simp only[Zw,BG 319 0,AB 319 1];have w1:IntKind.i64.wrap (a%b)=a%b:=AS AE AE;have J:0 <b:=AE;simp[AD,AB 319 2,AB 319 3,AB 319 4,e,W,J]
def kL(a b:Int)(G:0<=a)(h2:0<=b)(J:a<=2^62)(N:b<=2^62):PX 319 [a,b] [((Int.gcd a b:Int):V)]:=by refine BS 319 ?_;simp only[As 319,AH,AY,AJ,AB 319 0,Ad];simp;refine Ap _ ?_ (oL b.toNat a b AE G h2 J N);rintro e s ⟨rfl,h⟩;simp[AB 319 5,h,AA,AW 319]
def kw(x:Val)(hx:x.ok):PX 281 [BE x.n x.d] [.bool (DE x)]:=by
 refine BS 281 ?_;simp only[As 281,AH,AJ,AO,AB 281 0,AB 281 1,Ad];unfold DE Ef;obtain⟨a,n,d⟩:=x;simp only;by_cases G:d <1
 .simp[BE,G,AA,AB 281 2,AW 281]<;>omega
 by_cases J:65536 <d
 .simp[BE,G,J,AA,AB 281 2,AW 281]<;>omega
 by_cases N:n < -1099511627776
 .simp[BE,G,J,N,AA,AB 281 2,AW 281]<;>omega
 by_cases O:1099511627776 <n
 .simp[BE,G,J,O,N,AA,AB 281 2,AW 281]<;>omega
 have U:IntKind.i64.wrap (-n)= -n:=AS AE AE;simp[BE,G,J,O,N,AD];simp only[AB 281 3];simp[U];have hg:Int.gcd (if n < -n then -n else n) d=Int.gcd n d:=by split<;>simp
 have q:=(kL (if n < -n then -n else n) d (by split<;>omega) AE (by split<;>omega) AE).fsp
 rw[hg]at q;refine⟨_,_,q _,?_⟩;simp[AA,AW 281];rw[tC];simp;omega
theorem gI(cs:List Int)(vs:List Val)(ps:List Th)(hn:cs.length<=2^40)(Q:AExit->St->Prop)(hr:∀e h,FO cs 64=false->AK e 2=(false:D)->Q .ret ⟨e,h⟩)(hs:∀e h,FO cs 64=true->AK e 1= .R 0 0->h=[.cells (Th.mk cs vs ps).cells]->Q (.exit 0) ⟨e,h⟩):
  AX (.loop (lG 197 0)) Q ⟨[(1,.R 0 0),(3,((0:Int):D))],[.cells (Th.mk cs vs ps).cells]⟩:=by
 refine Aw cs.length (λk=>⟨[(1,.R 0 0),(3,(k:D))],[.cells (Th.mk cs vs ps).cells]⟩) (λk=>∀j <k,DS cs 64 j=false) Ac AE ?_;intro k hk hI;simp only[Zw,BG 197 0,AB 197 2,Th.cells,Th.cs,Th.vs,Th.ps,AM];simp;by_cases U:k <cs.length
 .obtain⟨x,hx⟩:∃x,cs[k]?=some x:=⟨_,rW U⟩;have hw:=Bt k;have W:DS cs 64 k=true↔(x <0\/64<=x\/(0 <k/\x<=cs.getD (k-1) 0)):=by unfold DS;rw[decide_eq_true_iff];simp[List.getD,hx]
  have hf:¬(x <0\/64<=x\/(0 <k/\x<=cs.getD (k-1) 0))->DS cs 64 k=false:=λh=>by
   cases h':DS cs 64 k with
   |true=>exact absurd (W.1 h') h
   |false=>rfl
  have ret:DS cs 64 k=true->FO cs 64=false:=λh=>by unfold FO;rw[EZ U h];rfl
  have go:DS cs 64 k=false->∀j <k+1,DS cs 64 j=false:=λh j hj=>by
   rcases sL j k with h'|h'
   .exact hI j h'
   .have:j=k:=AE;subst this;exact h
  rw[CF,AD];simp only[AB 197 4,AB 197 5];simp[hx];by_cases J:x <0
  .simp[J,AA,AB 197 6];exact hr _ _ (ret (W.2 (.inl J))) rfl
  .by_cases O:63 <x
   .simp[J,O,AA,AB 197 6];exact hr _ _ (ret (W.2 (.inr (.inl AE)))) rfl
   .cases k with
    |zero=>
     have G:DS cs 64 0=false:=hf AE;have a2:IntKind.i64.wrap 1=1:=rfl;simp[a2,J,O,AD,AB 197 3,U,G]
    |succ j=>
     have N:IntKind.i64.wrap (j:Int)=j:=AS AE AE;have a6:(0:Int) <(j:Int)+1:=AE;obtain⟨y,Z⟩:∃y,cs[j]?=some y:=⟨_,rW AE⟩;simp only[tN,Int.cast_ofNat_Int]at hw;by_cases b3:x<=y
     .simp[J,O,b3,N,Z,AA,AB 197 6];exact hr _ _ (ret (W.2 (.inr (.inr ⟨AE,by simp[List.getD,Z,b3]⟩)))) rfl
     .have G:DS cs 64 (j+1)=false:=hf (by simp[List.getD,Z];omega);simp[J,O,b3,N,Z,AD,AB 197 3,hw,U];exact go G
 .have a1:k=cs.length:=AE;subst a1;rw[Bj,AN];refine hs _ _ ?_ rfl rfl;unfold FO;rw[F1 hI];rfl
theorem gG(cs:List Int)(vs:List Val)(ps:List Th)(hn:vs.length<=2^40)(hv:∀x∈vs,Val.ok x)(Q:AExit->St->Prop)(hr:∀e h,(vs.all DE&&FO (vs.map Val.a) 32)=false->AK e 2=(false:D)->Q .ret ⟨e,h⟩)(hs:∀e J,(vs.all DE&&FO (vs.map Val.a) 32)=true->AK e 1= .R 0 0->Q (.exit 2) ⟨e,.cells (Th.mk cs vs ps).cells::J⟩):
  AX (.loop (lG 197 1)) Q ⟨[(1,.R 0 0),(5,((0:Int):D))],[.cells (Th.mk cs vs ps).cells]⟩:=by
 refine Ag vs.length (λk s=>∃J,s=⟨[(1,.R 0 0),(5,(k:D))],.cells (Th.mk cs vs ps).cells::J⟩/\(vs.take k).all DE=true/\∀j <k,DS (vs.map Val.a) 32 j=false) ⟨[],Ac,rfl,AE⟩ ?_;rintro k s hk ⟨J,rfl,hA,hI⟩;simp only[Zw,BG 197 1,AB 197 8,Th.cells,Th.cs,Th.vs,Th.ps,AM];simp;by_cases h1:k <vs.length
 .obtain⟨x,hx⟩:∃x,vs[k]?=some x:=⟨_,rW h1⟩;have a1:=rY hx;have hw:=Bt k;have q:=(kw x (hv x a1)).fsp;have a8:(vs.map Val.a)[k]?=some x.a:=by rw[rk,hx];rfl
  have W:DS (vs.map Val.a) 32 k=true↔(x.a <0\/32<=x.a\/(0 <k/\x.a<=(vs.map Val.a).getD (k-1) 0)):=by unfold DS;rw[decide_eq_true_iff];simp[List.getD,hx]
  have hf:¬(x.a <0\/32<=x.a\/(0 <k/\x.a<=(vs.map Val.a).getD (k-1) 0))->DS (vs.map Val.a) 32 k=false:=λh=>by
   cases h':DS (vs.map Val.a) 32 k with
   |true=>exact absurd (W.1 h') h
   |false=>rfl
  have ret:DS (vs.map Val.a) 32 k=true->(vs.all DE&&FO (vs.map Val.a) 32)=false:=λh=>by unfold FO;rw[EZ (by simpa using h1) h];simp
  have a2:DE x=false->(vs.all DE&&FO (vs.map Val.a) 32)=false:=λh=>by
   have:vs.all DE=false:=by rw[List.all_eq_false];exact⟨x,a1,by simp[h]⟩
   rw[this];rfl
  have go:DS (vs.map Val.a) 32 k=false->∀j <k+1,DS (vs.map Val.a) 32 j=false:=λh j hj=>by
   rcases sL j k with h'|h'
   .exact hI j h'
   .have:j=k:=AE;subst this;exact h
  have G:DE x=true->(vs.take (k+1)).all DE=true:=λh=>by rw[rx,hx,List.all_append,hA];simp[h]
  generalize DE x=g at*;obtain⟨xa,xn,xd⟩:=x;simp only[BE]at q W hf a8;rw[CF,AD];simp only[AB 197 10,AB 197 11];simp at q;simp[hx,Val.V,AQ];refine⟨_,_,q _,?_⟩;simp only[Aa,AB 197 12];cases g with
  |false=>
   simp[AA,AB 197 13];exact hr _ _ (a2 rfl) rfl
  |true=>
   have G:=G rfl;simp only[ry]at G;simp;by_cases U:xa <0
   .simp[U,AA,AB 197 13];exact hr _ _ (ret (W.2 (.inl U))) rfl
   .have N:0<=xa:=AE;by_cases b2:31 <xa
    .simp[U,N,b2,AA,AB 197 13];exact hr _ _ (ret (W.2 (.inr (.inl AE)))) rfl
    .cases k with
     |zero=>
      have O:DS (vs.map Val.a) 32 0=false:=hf AE;have a7:IntKind.i64.wrap 1=1:=rfl;simp[a7,U,N,b2,AD,AB 197 9,h1,O];exact G
     |succ j=>
      have Z:IntKind.i64.wrap (j:Int)=j:=AS AE AE;have b0:(0:Int) <(j:Int)+1:=AE;obtain⟨y,hy⟩:∃y,vs[j]?=some y:=⟨_,rW AE⟩;simp only[tN,Int.cast_ofNat_Int]at hw;by_cases b3:xa<=y.a
      .simp[U,N,b2,b3,Z,hy,Val.V,AA,AB 197 13];exact hr _ _ (ret (W.2 (.inr (.inr ⟨AE,by simp[List.getD,hy,b3]⟩)))) rfl
      .have O:DS (vs.map Val.a) 32 (j+1)=false:=hf (by simp[List.getD,hy];omega);simp[U,N,b2,b3,Z,hy,Val.V,AD,AB 197 9,hw,h1];exact⟨G,go O⟩
 .have a6:k=vs.length:=AE;subst a6;rw[Bj,AN];rw[sE]at hA;refine hs _ _ ?_ rfl;unfold FO;rw[hA,F1 (by simpa using hI)];rfl
theorem gF(cs:List Int)(vs:List Val)(ps:List Th)(hn:ps.length<=2^40)(ih:∀p∈ps,PX 197 [p.V] [(p.formed:V)])(J:List Row)(Q:AExit->St->Prop)(Z:∀e h,ps.all Th.formed=false->AK e 2=(false:D)->Q .ret ⟨e,h⟩)(hs:∀e h,ps.all Th.formed=true->Q (.exit 4) ⟨e,h⟩):
  AX (.loop (lG 197 2)) Q ⟨[(1,.R 0 0),(8,((0:Int):D))],.cells (Th.mk cs vs ps).cells::J⟩:=by
 refine Aw ps.length (λk=>⟨[(1,.R 0 0),(8,(k:D))],.cells (Th.mk cs vs ps).cells::J⟩) (λk=>∀x∈ps.take k,x.formed=true) Ac Ac ?_;intro k hk W;simp only[Zw,BG 197 2,AB 197 15,Th.cells,Th.cs,Th.vs,Th.ps,AM];simp;by_cases U:k <ps.length
 .obtain⟨x,hx⟩:∃x,ps[k]?=some x:=⟨_,rW U⟩;have G:=rY hx;have hw:=Bt k;have q:=(ih x G).fsp;have bad:x.formed=false->ps.all Th.formed=false:=λh=>by rw[List.all_eq_false];exact⟨x,G,by simp[h]⟩
  have good:x.formed=true->∀y∈ps.take (k+1),y.formed=true:=λh y N=>by
   rw[rx,hx]at N;simp at N;rcases N with N|rfl
   .exact W y N
   .exact h
  generalize x.formed=g at*;obtain⟨xc,xv,xp⟩:=x;simp[Th.V_eq,AM]at q;rw[CF,AD];simp only[AB 197 17];simp[hx,Th.V_eq,AM];refine⟨_,_,q _,?_⟩;simp only[AB 197 18];cases g with
  |false=>
   simp[AA,AB 197 19];exact Z _ _ (bad rfl) rfl
  |true=>
   simp[AD,AB 197 16,hw,U];exact good rfl
 .have O:k=ps.length:=AE;subst O;rw[Bj,AN];refine hs _ _ ?_;rw[ry];simpa using W
def ma:∀t:Th,t.ok->PX 197 [t.V] [(t.formed:V)]:=by
 refine Th.ind λcs vs ps ih W=>?_;obtain⟨ok1,a7,a8,Z,a6⟩:=W;refine BS 197 ?_;obtain⟨R,U⟩:∃R,(Th.mk cs vs ps).formed=R:=⟨_,rfl⟩;rw[U];rw[Th.formed,E9]at U;have q1:=gI cs vs ps AE;have q2:=gG cs vs ps AE Z;have q3:=gF cs vs ps AE λp hp=>ih p hp (a6 p hp);simp only[Th.cells,Th.cs,Th.vs,Th.ps]at q1 q2 q3;simp only[As 197,AH,AJ,AY,AB 197 0,AB 197 1,Ad];simp[Th.V_eq];refine q1 _ ?_ ?_
 .intro e h G N;rw[G]at U;simp at U;simp[N,AW 197,U]
 .intro e h G N a3;subst a3;rw[G]at U;simp[AB 197 7,N];refine q2 _ ?_ ?_
  .intro e h G N;have:R=false:=by rw[<-U,sV,<-Bool.and_assoc,G];rfl
   simp[N,AW 197,this]
  .intro e J G N;have O:ps.all Th.formed=R:=by rw[<-U,sV,<-Bool.and_assoc,G,sV]
   simp[AB 197 14,N];refine q3 _ _ ?_ ?_
   .intro e h G N;rw[G]at O;simp[N,AW 197,O]
   .intro e h G;rw[G]at O;simp[AA,AB 197 20,AW 197,O]
def ei(t:Th)(h:t.ok)(W:t.size<=2^40):PX 103 [t.V] [((IZ t:Int):V)]:=by
 refine BS 103 ?_;obtain⟨R,G⟩:∃R,IZ t=R:=⟨_,rfl⟩;rw[G];unfold IZ at G;rw[Oo]at G;have O:=(me t W).fsp;have h2:=(mc t W).fsp;have U:=(ma t h).fsp;generalize t.size=sz at*;generalize t.depth=dp at*;generalize t.formed=g at*;obtain⟨cs,vs,ps⟩:=t;simp only[As 103,AH,AJ,AO,AB 103 0,AB 103 1,Ad];simp[Th.V_eq,AM]at O h2 U ⊢;refine⟨_,_,O _,?_⟩;by_cases Z:96 <sz
 .have J:96 <(sz:Int):=AE;rw[if_neg Dd]at G;simp[J,AA,AB 103 2,AW 103,G]
 .have J:¬96 <(sz:Int):=AE;simp[J];refine⟨_,_,h2 _,?_⟩;by_cases b2:8 <dp
  .have N:8 <(dp:Int):=AE;rw[if_neg Dd]at G;simp[N,AA,AB 103 2,AW 103,G]
  .have N:¬8 <(dp:Int):=AE;rw[if_pos Dd]at G;simp[N,AD];simp only[AB 103 3];simp;refine⟨_,_,U _,?_⟩;cases g<;>simp at G<;>simp[AB 103 4,AA,AB 103 5,AB 103 6,AW 103,G]
section
def Xv(x:Ivl)(n d:Int):Bool:= !x.li&&(H9 n d x.ln x.ld||(decide (n=x.ln/\d=x.ld)&&x.lo))
def YF(x:Ivl)(n d:Int):Bool:= !x.hi&&(H9 x.hn x.hd n d||(decide (n=x.hn/\d=x.hd)&&x.ho))
variable {c:Int}
def IN{a b d:Int}(G:Ef a b=true)(h2:Ef c d=true):decide (Hb a b c d <0)=H9 a b c d/\decide (Hb a b c d=0)=decide (a=c/\b=d)/\decide (0 <Hb a b c d)=H9 c d a b:=by
 have r:=MC G h2;unfold Hb Qm H9;rw[G,h2];simp only[Bool.and_self,if_true];by_cases J:a*d <c*b
 .have:¬c*b <a*d:=AE;have:¬(a=c/\b=d):=by rintro⟨rfl,rfl⟩;omega
  simp[*]
 .by_cases N:c*b <a*d
  .have:¬(a=c/\b=d):=by rintro⟨rfl,rfl⟩;omega
   simp[*]
  .have:=r AE;simp[*]
def XX{x:Ivl}(N:E8 x=true){n d:Int}(h:Ef n d=true):(!Xv x n d&& !YF x n d)=Is x n d:=by
 have O:=Jt N;have Z:=Js N;obtain⟨ln,ld,hn,hd,lo,ho,W,hi⟩:=x;unfold Xv YF Is;simp only at*;cases W with
 |false=>
  obtain⟨U,e2,_⟩:=IN h (DA (Z rfl));rw[U,e2];cases hi with
  |false=>
   obtain⟨_,G,J⟩:=IN h (DA (O rfl));rw[G,J];simp
  |true=>simp
 |true=>
  cases hi with
  |false=>
   obtain⟨_,G,J⟩:=IN h (DA (O rfl));rw[G,J];simp
  |true=>simp
def kD(x:Ivl)(gx:E8 x=true)(n d:Int)(h:Ef n d=true):PX 333 [x.V,BE n d] [.bool (Is x n d)]:=by
 refine BS 333 ?_;rw[<-XX gx h];have q1:=λhh=>(W0 x.hn x.hd n d (DA (Jt gx hh)) h).fsp;have q2:=λhh=>(W0 n d x.ln x.ld h (DA (Js gx hh))).fsp;obtain⟨A,N⟩:∃A,Xv x n d=A:=⟨_,rfl⟩;obtain⟨B,O⟩:∃B,YF x n d=B:=⟨_,rfl⟩;rw[N,O];unfold Xv at N;unfold YF at O;clear gx;obtain⟨ln,ld,hn,hd,lo,ho,li,hi⟩:=x;simp only[BE]at*;generalize H9 n d ln ld=L1 at*;generalize H9 hn hd n d=L2 at*
 let J:List Row:=[.cells [ln,ld,hn,hd,lo,ho,li,hi],.cells [n,d]]
 have fin:∀(Q:AExit->St->Prop),Q .ret ⟨[(4,.v (.bool (!A&& !B)))],J⟩->AX (.seq (.reg (oG 333 3) [4]) .ret) Q ⟨[(5,.v (.bool A)),(6,.v (.bool B))],J⟩:=by intro Q hQ;simp only[AH,AJ,AB 333 3];cases A<;>cases B<;>simpa[AA]using hQ
 have a1:∀(Q:AExit->St->Prop),Q .ret ⟨[(4,.v (.bool (!A&& !B)))],J⟩->AX (.seq (.reg (oG 333 2) [5,6]) (.seq (.reg (oG 333 3) [4]) .ret)) Q ⟨[(2,.R 0 0),(3,.R 1 0),(5,.v (.bool A))],J⟩:=by
  intro Q hQ;have Z:=fin Q hQ;rw[AX,AH,AJ];simp only[AB 333 2,J]at Z ⊢;cases hi with
  |true=>
   simp at O;subst O;simpa using Z
  |false=>
   have q1:=q1 rfl;simp at q1;simp;refine⟨_,_,q1 _,?_⟩;cases L2 with
   |true=>
    simp at O;subst O;simpa using Z
   |false=>
    simp at O;by_cases U:n=hn
    .by_cases W:d=hd
     .subst U W;simp at O;subst O;simpa[V.eqL,V.eq1]using Z
     .simp[W]at O;subst O;simpa[V.eqL,V.eq1,U,W]using Z
    .simp[U]at O;subst O;simpa[V.eqL,V.eq1,U]using Z
 simp only[As 333];rw[AH,AJ];simp only[AB 333 0,Ad];simp[Ivl.V];rw[AH,AJ];simp only[AB 333 1];have G:=λQ=>a1 Q;simp only[J]at G;cases li with
 |true=>
  simp at N;subst N;simp;refine G _ ?_;simp[AW 333]
 |false=>
  have q2:=q2 rfl;simp at q2;simp;refine⟨_,_,q2 _,?_⟩;cases L1 with
  |true=>
   simp at N;subst N;simp;refine G _ ?_;simp[AW 333]
  |false=>
   simp at N;by_cases U:n=ln
   .by_cases W:d=ld
    .subst U W;simp at N;subst N;simp[V.eqL,V.eq1];refine G _ ?_;simp[AW 333]
    .subst U;simp[W]at N;subst N;simp[V.eqL,V.eq1,W];refine G _ ?_;simp[AW 333]
   .simp[U]at N;subst N;simp[V.eqL,V.eq1,U];refine G _ ?_;simp[AW 333]
def kP(l:List Ivl)(hl:∀x∈l,x.ok)(hn:l.length<=2^40)(n d:Int)(h1:i64 n)(h2:i64 d):PX 313 [(l.map Ivl.V:V),BE n d] [.bool (RZ l n d)]:=by
 refine BS 313 ?_;obtain⟨R,G⟩:∃R,RZ l n d=R:=⟨_,rfl⟩;rw[G];unfold RZ at G;have Z:=(Zy n d h1 h2).fsp;simp only[BE]at Z;simp at Z;simp only[Zw,As 313,AB 313 0,AB 313 1,Ad,BE];simp;refine⟨_,_,Z _,?_⟩;cases U:Ef n d with
 |false=>
  rw[U]at G;simp at G;simp[AA,AB 313 2,AW 313,G]
 |true=>
  rw[U]at G;simp only[sV]at G;simp[AD,AB 313 3];refine Aw l.length (λk=>⟨[(0,(l.map Ivl.V:D)),(3,.R 0 0),(5,(k:D))],[.cells [n,d]]⟩) (λk=>∀x∈l.take k,(ET x&&Is x n d)=false) Ac Ac ?_;intro k hk hI;simp only[Zw,BG 313 0,AB 313 4];simp;by_cases J:k <l.length
  .obtain⟨x,hx⟩:∃x,l[k]?=some x:=⟨_,rW J⟩;have N:=rY hx;have w1:=Bt k;have good:(ET x&&Is x n d)=true->R=true:=λh=>by rw[<-G,tX];exact⟨x,N,h⟩
   have bad:(ET x&&Is x n d)=false->∀y∈l.take (k+1),(ET y&&Is y n d)=false:=λh y O=>by
    rw[rx,hx]at O;simp only[Option.toList_some,rp,rm]at O;rcases O with O|rfl
    .exact hI y O
    .exact h
   have q2:=(dM x (hl x N)).fsp;have q3:=λgx=>kD x gx n d U;rw[Gi]at q2 q3;rw[CF,AD];simp only[Aa,AB 313 6];generalize ET x=g at*;generalize Is x n d=b at*;obtain⟨ln,ld,hn,hd,lo,U,li,hi⟩:=x;simp[Ivl.V,BE]at q2 q3;simp[hx,Ivl.V];refine⟨_,_,q2 _,?_⟩;simp only[AB 313 7];cases g with
   |false=>
    have bad:=bad rfl;simp[AD,AB 313 5,w1,J];exact λx hx h=>by simpa[h]using bad x hx
   |true=>
    simp[hx,Ivl.V];refine⟨_,_,⟨rfl,rfl⟩,_,(q3 rfl),?_⟩;cases b with
    |false=>
     have bad:=bad rfl;simp[AD,AB 313 5,w1,J];exact λx hx h=>by simpa[h]using bad x hx
    |true=>
     simp[AA,AB 313 8,AW 313,good rfl]
  .have W:k=l.length:=AE;subst W;rw[Bj,AN];have:R=false:=by rw[<-G,tD];simpa using hI
   simp[AA,AB 313 9,AW 313,this]
end
def kQ(t:Th)(Z:t.ok)(n:Int):PX 312 [t.V,n] [BE (Gu t n).1 (Gu t n).2,.bool (L4 t n).isSome]:=by
 obtain⟨cs,vs,ps⟩:=t;obtain⟨_,h2,_,_,_⟩:=Z;refine BS 312 ?_;unfold Gu;obtain⟨o,O⟩:∃o,L4 (.mk cs vs ps) n=o:=⟨_,rfl⟩;rw[O];unfold L4 at O;simp only[Th.vs]at O;simp only[As 312,AH,AJ,AY,AB 312 0,AB 312 1,Ad];simp[Th.V_eq];refine Aw vs.length (λk=>⟨[(1,(n:D)),(2,.R 0 0),(4,.R 1 0),(6,(k:D))],[.cells (Th.mk cs vs ps).cells,.cells [((0:Int):D),((0:Int):D)]]⟩) (λk=>(vs.drop k).find? (λx=>x.a==n)=o) (by simp[Th.cells,Th.cs,Th.vs,Th.ps]) (by simpa using O) ?_;intro k hk G;simp only[Zw,BG 312 0,AB 312 2,Th.cells,Th.cs,Th.vs,Th.ps];simp;by_cases J:k <vs.length
 .obtain⟨x,hx⟩:∃x,vs[k]?=some x:=⟨_,rW J⟩;have w1:=Bt k;rw[E0 hx,List.find?_cons]at G;rw[CF,AD];simp only[AB 312 4];simp[hx,Val.V];by_cases N:x.a=n
  .simp[N]at G;subst G;simp[N,AB 312 5,AA,hx,Val.V,AQ,AW 312,BE,D.vs?,D.v?]
  .have U:(x.a==n)=false:=by simpa using N
   rw[U]at G;simp[N,AD,AB 312 3,w1,J];exact G
 .have W:k=vs.length:=AE;subst W;simp at G;subst G;rw[Bj,AN];simp[AA,AB 312 6,AW 312,AQ,BE,D.vs?,D.v?]
def S5(nc:Int)(op n:Int)(ins:List Ivl)(kids:List F):(F.mk op n ins kids).nodes.all (Hi nc)=(Hi nc (.mk op n ins kids)&&kids.all λk=>k.nodes.all (Hi nc)):=by rw[F.nodes_eq,tz,List.all_flatMap]
def lJ(nc:Int):∀f:F,f.ok->PX 263 [f.V,nc] [.bool (f.nodes.all (Hi nc))]:=by
 refine F.ind λop n ins kids ih W=>?_;refine BS 263 ?_;obtain⟨R,G⟩:∃R,(F.mk op n ins kids).nodes.all (Hi nc)=R:=⟨_,rfl⟩;rw[G];rw[S5]at G;have a2:=W.2;rw[F.size_eq]at a2;have a6:=F.kids_len kids;obtain⟨K,hK⟩:∃K,Hi nc (.mk op n ins kids)=K:=⟨_,rfl⟩;rw[hK]at G;have J:K= !(decide (op=1)&&decide (nc<=n)):=hK.symm;have step:∀(Q:AExit->St->Prop),(K=false->Q .ret ⟨[(4,(false:D))],[.cells (F.mk op n ins kids).cells]⟩)->(K=true->Q .normal ⟨[(1,(nc:D)),(2,.R 0 0),(14,(false:D))],[.cells (F.mk op n ins kids).cells]⟩)->
   AX (.seq (.reg (oG 263 1) [1,2,14]) (.cond (.t 14 false) (.seq (.reg (oG 263 2) [4]) .ret) .skip)) Q ⟨[(1,(nc:D)),(2,.R 0 0)],[.cells (F.mk op n ins kids).cells]⟩:=by
  intro Q h1 h2;simp only[AH,AJ,AO,AB 263 1,F.cells,F.op,F.n,F.ins,F.kids]at*;by_cases O:op=1
  .by_cases c2:nc<=n
   .have U:K=false:=by rw[J];simp[O,c2]
    simpa[O,c2,AH,AJ,AA,AB 263 2]using h1 U
   .have U:K=true:=by rw[J];simp[c2]
    simpa[O,c2,AD]using h2 U
  .have U:K=true:=by rw[J];simp[O]
   simpa[O,AD]using h2 U
 simp only[As 263];rw[AH,AJ];simp only[AB 263 0,Ad];simp[F.V_eq];rw[AH];simp only[F.cells,F.op,F.n,F.ins,F.kids]at step;refine step _ ?_ ?_
 .rintro rfl;simp at G;simp[AW 263,G]
 .rintro rfl;simp only[sV]at G;simp[AH,AY,AJ,AB 263 3];refine Aw kids.length (λk=>⟨[(1,(nc:D)),(2,.R 0 0),(5,(k:D))],[.cells (F.mk op n ins kids).cells]⟩) (λk=>∀x∈kids.take k,x.nodes.all (Hi nc)=true) (by simp[F.cells,F.op,F.n,F.ins,F.kids]) Ac ?_;intro k hk hI;simp only[Zw,BG 263 0,AB 263 4,F.cells,F.op,F.n,F.ins,F.kids];simp;by_cases h1:k <kids.length
  .obtain⟨x,hx⟩:∃x,kids[k]?=some x:=⟨_,rW h1⟩;have N:=rY hx;have hw:=Bt k;have p1:=(ih x N (F.ok_kid W N)).fsp;have bad:x.nodes.all (Hi nc)=false->R=false:=λh=>by rw[<-G,List.all_eq_false];exact⟨x,N,by simp[h]⟩
   have good:x.nodes.all (Hi nc)=true->∀y∈kids.take (k+1),y.nodes.all (Hi nc)=true:=λh y Z=>by
    rw[rx,hx]at Z;simp only[Option.toList_some,rp,rm]at Z;rcases Z with Z|rfl
    .exact hI y Z
    .exact h
   rw[CF,AD];simp only[AB 263 6];generalize x.nodes.all (Hi nc)=g at*;obtain⟨xo,xn,xi,xk⟩:=x;simp[F.V_eq]at p1;simp[hx,F.V_eq];refine⟨_,_,p1 _,?_⟩;cases g with
   |false=>simp[AA,AB 263 7,AW 263,bad rfl]
   |true=>
    have good:=good rfl;simp only[ry]at good;simp[AD,AB 263 5,hw,h1];exact good
  .have a1:k=kids.length:=AE;subst a1;rw[Bj,AN];have:R=true:=by rw[<-G,ry];simpa using hI
   simp[AA,AB 263 8,AW 263,this]
def lI(nc:Int):∀t:Th,t.ok->PX 264 [t.V,nc] [.bool (t.kinds nc)]:=by
 refine Th.ind λcs vs ps ih a1=>?_;obtain⟨ok1,a6,a7,a8,a2⟩:=a1;refine BS 264 ?_;obtain⟨R,O⟩:∃R,(Th.mk cs vs ps).kinds nc=R:=⟨_,rfl⟩;rw[O];rw[Th.kinds,Fq]at O;simp only[As 264,AH,AJ,AY,AB 264 0,AB 264 1,Ad];simp[Th.V_eq];refine Aw cs.length (λk=>⟨[(1,(nc:D)),(2,.R 0 0),(5,(k:D))],[.cells (Th.mk cs vs ps).cells]⟩) (λk=>∀x∈cs.take k,x <nc) (by simp[Th.cells,Th.cs,Th.vs,Th.ps]) Ac ?_;intro k hk W;simp only[Zw,BG 264 0,AB 264 2,Th.cells,Th.cs,Th.vs,Th.ps,AM];simp;by_cases U:k <cs.length
 .obtain⟨x,hx⟩:∃x,cs[k]?=some x:=⟨_,rW U⟩;have G:=rY hx;have hw:=Bt k;rw[CF,AD];simp only[AB 264 4];simp[hx];by_cases Z:nc<=x
  .have:R=false:=by rw[<-O,Bool.and_eq_false_iff];left;rw[List.all_eq_false];exact⟨x,G,by simpa using Z⟩
   simp[Z,AA,AB 264 5,AW 264,this]
  .have good:∀y∈cs.take (k+1),y <nc:=λy J=>by
    rw[rx,hx]at J;simp only[Option.toList_some,rp,rm]at J;rcases J with J|rfl
    .exact W y J
    .omega
   simp[Z,AD,AB 264 3,hw,U];exact good
 .have N:k=cs.length:=AE;subst N;have hA:(cs.all λc=> !decide (nc<=c))=true:=by rw[ry];intro x hx;have:=W x (by simpa using hx);simp;omega
  rw[hA,sV]at O;rw[Bj,AN];simp[AB 264 6];refine Aw ps.length (λk=>⟨[(1,(nc:D)),(2,.R 0 0),(6,(k:D))],[.cells (Th.mk cs vs ps).cells]⟩) (λk=>∀x∈ps.take k,x.kinds nc=true) (by simp[Th.cells,Th.cs,Th.vs,Th.ps,AM]) Ac ?_;intro k hk W;simp only[Zw,BG 264 1,AB 264 7,Th.cells,Th.cs,Th.vs,Th.ps,AM];simp;by_cases U:k <ps.length
  .obtain⟨x,hx⟩:∃x,ps[k]?=some x:=⟨_,rW U⟩;have G:=rY hx;have hw:=Bt k;have p1:=(ih x G (a2 x G)).fsp;have bad:x.kinds nc=false->R=false:=λh=>by rw[<-O,List.all_eq_false];exact⟨x,G,by simp[h]⟩
   have good:x.kinds nc=true->∀y∈ps.take (k+1),y.kinds nc=true:=λh y J=>by
    rw[rx,hx]at J;simp only[Option.toList_some,rp,rm]at J;rcases J with J|rfl
    .exact W y J
    .exact h
   rw[CF,AD];simp only[AB 264 9];generalize x.kinds nc=g at*;obtain⟨xc,xv,xp⟩:=x;simp[Th.V_eq,AM]at p1;simp[hx,Th.V_eq,AM];refine⟨_,_,p1 _,?_⟩;cases g with
   |false=>simp[AA,AB 264 10,AW 264,bad rfl]
   |true=>
    simp[AD,AB 264 8,hw,U];exact good rfl
  .have N:k=ps.length:=AE;subst N;rw[Bj,AN];have:R=true:=by rw[<-O,ry];simpa using W
   simp[AA,AB 264 11,AW 264,this]
section
theorem VV{l:List Int}{m:Int}(h:FO l m=true){x:Int}(hx:x∈l):0<=x:=by
 obtain⟨k,J,G⟩:=List.getElem_of_mem hx;rcases (show x <0\/0<=x by omega)with c|c
 .have N:DS l m k=true:=by unfold DS;rw[decide_eq_true_iff];left;simp[List.getD,rW J,G,c]
  unfold FO at h;rw[EZ J N]at h;cases h
 .exact c
variable {k:Nat}
def IT{α:Type}{l:List α}{x:α}(hx:l[k]?=some x){p:α->Bool}(J:∀y∈l.take k,p y=false)(h:p x=false):∀y∈l.take (k+1),p y=false:=by
 intro y G;rw[rx,hx]at G;simp only[Option.toList_some,rp,rm]at G;rcases G with G|rfl
 .exact J y G
 .exact h
variable {nc:Int} {pa:List V}
theorem lF{I:Int->Int->Bool}(hI:∀a b,0<=a->a <nc->0<=b->b <nc->PX 311 [pa,a,b] [.bool (I a b)]):
  ∀f:F,f.ok->f.nodes.all BC=true->f.nodes.all (Hi nc)=true->∀t:Th,t.ok->t.formed=true->t.kinds nc=true->PX 265 [pa,f.V,t.V] [.bool (f.hold I t)]:=by
 refine F.ind λop n ins kids ih b1 a8 b0 t ht a1 a2=>?_;obtain⟨cs,vs,ps⟩:=t;have Z:=kQ _ ht n;have b6:i64 (Gu (.mk cs vs ps) n).1/\i64 (Gu (.mk cs vs ps) n).2:=by
  unfold Gu;cases h:L4 (.mk cs vs ps) n with
  |none=>exact⟨by unfold i64;decide,by unfold i64;decide⟩
  |some x=>
   obtain⟨_,_,_,h4,_⟩:=ht;exact⟨(h4 x (List.mem_of_find?_eq_some h)).2.1,(h4 x (List.mem_of_find?_eq_some h)).2.2⟩
 have c7:=ht;obtain⟨ok1,d2,d3,d4,c8⟩:=c7;have b4:=a1;have b5:=a2;rw[Th.formed,E9]at a1;rw[Th.kinds,Fq]at a2;simp only[rX,ry]at a1 a2;obtain⟨f1,f2,f3,f4⟩:=a1;obtain⟨g1,g2⟩:=a2;have a7:=F.ok1_self b1;have c0:=b1.2;rw[F.size_eq]at c0;have c9:=F.kids_len kids;rw[show (F.mk op n ins kids).nodes.all BC=(BC (.mk op n ins kids)&&kids.all Eh) from NS op n ins kids]at a8;rw[S5]at b0;simp only[rX,ry]at a8 b0;obtain⟨m1,m2⟩:=a8;obtain⟨o1,o2⟩:=b0;have b3:∀k∈kids,∀t:Th,t.ok->t.formed=true->t.kinds nc=true->PX 265 [pa,k.V,t.V] [.bool (k.hold I t)]:=λk hk t a b c=>ih k hk (F.ok_kid b1 hk) (m2 k hk) (by rw[ry];exact o2 k hk) t a b c;clear ih;refine BS 265 ?_;obtain⟨R,G⟩:∃R,(F.mk op n ins kids).hold I (.mk cs vs ps)=R:=⟨_,rfl⟩;rw[G];unfold F.hold at G;rw[Kh,Kg]at G;simp only[Th.cs,Th.ps]at G;simp only[As 265,AH,AJ,AY,AB 265 0,AB 265 1,Ad];simp[F.V_eq,Th.V_eq,AM];by_cases c1:op=1
 .subst c1;simp at G;have hn:0<=n/\n <nc:=by
   have h2:¬nc<=n:=λh=>by unfold Hi at o1;simp[F.op,F.n,h]at o1
   unfold BC at m1;simp[F.op,F.n,F.ins,F.kids]at m1;omega
  simp[AB 265 2,AO,AH,AJ,AY,AB 265 3];refine Aw cs.length (λk=>⟨[(0,(pa:D)),(4,.R 0 0),(5,.R 1 0),(7,(k:D))],[.cells (F.mk 1 n ins kids).cells,.cells (Th.mk cs vs ps).cells]⟩) (λk=>∀x∈cs.take k,I x n=false) (by simp[F.cells,F.op,F.n,F.ins,F.kids,Th.cells,Th.cs,Th.vs,Th.ps,AM]) Ac ?_;intro k hk J;simp only[Zw,BG 265 0,AB 265 4,F.cells,F.op,F.n,F.ins,F.kids,Th.cells,Th.cs,Th.vs,Th.ps,AM];simp;by_cases W:k <cs.length
  .obtain⟨x,hx⟩:∃x,cs[k]?=some x:=⟨_,rW W⟩;have b2:=rY hx;have hw:=Bt k;have b9:=g1 x b2;simp at b9;have q:=hI x n (VV f2 b2) b9 hn.1 hn.2;have good:I x n=true->R=true:=λh=>by rw[<-G,tX];exact⟨x,b2,h⟩
   have bad:=IT (p:=λx=>I x n) hx J;rw[CF,AD];simp only[Aa,AB 265 6];generalize I x n=g at*;simp[hx];refine⟨_,_,⟨rfl,rfl⟩,_,q,?_⟩;cases g with
   |true=>simp[AA,AB 265 7,AW 265,good rfl]
   |false=>
    simp[AD,AB 265 5,hw,W];exact bad rfl
  .have O:k=cs.length:=AE;subst O;rw[Bj,AN];have:R=false:=by rw[<-G,tD];simpa using J
   simp[AA,AB 265 8,AW 265,this]
 by_cases c2:op=2
 .subst c2;simp at G;simp only[Th.V_eq,AM,BE]at Z;have q2:=Z.fsp;simp at q2;have a6:=kP ins a7.2.2.1 a7.2.2.2 _ _ b6.1 b6.2;simp only[BE]at a6;generalize (Gu (.mk cs vs ps) n).1=a at*;generalize (Gu (.mk cs vs ps) n).2=b at*;generalize (L4 (.mk cs vs ps) n).isSome=g at*;generalize RZ ins a b=hb at*;have q3:=a6.fsp;simp at q3;simp[AB 265 2,AO,AH,AJ,AB 265 9];simp only[AB 265 10];simp;refine⟨_,_,q2 _,?_⟩;simp[AQ];simp only[AB 265 11];cases g with
  |false=>
   simp at G;simp[AA,AW 265,G]
  |true=>
   simp at G;simp;refine⟨_,_,q3 _,?_⟩;simp[AA,AW 265,G]
 by_cases c3:op=3
 .subst c3;have U:∃x,kids=[x]:=by unfold BC at m1;simp[F.op,F.n,F.ins,F.kids]at m1;exact List.length_eq_one_iff.1 m1.2
  obtain⟨x,rfl⟩:=U;simp[F.hold1]at G;simp[AB 265 2,AO,AH,AJ,AY,AB 265 9,AB 265 12,AB 265 13];refine Aw ps.length (λk=>⟨[(0,(pa:D)),(4,.R 0 0),(5,.R 1 0),(10,(k:D))],[.cells (F.mk 3 n ins [x]).cells,.cells (Th.mk cs vs ps).cells]⟩) (λk=>∀y∈ps.take k,x.hold I y=false) (by simp[F.cells,F.op,F.n,F.ins,F.kids,Th.cells,Th.cs,Th.vs,Th.ps,AM]) Ac ?_;intro k hk J;simp only[Zw,BG 265 1,AB 265 14,F.cells,F.op,F.n,F.ins,F.kids,Th.cells,Th.cs,Th.vs,Th.ps,AM];simp;by_cases W:k <ps.length
  .obtain⟨y,hy⟩:∃y,ps[k]?=some y:=⟨_,rW W⟩;have N:=rY hy;have hw:=Bt k;have q:=b3 x Ac y (c8 y N) (f4 y N) (g2 y N);have good:x.hold I y=true->R=true:=λh=>by rw[<-G,tX];exact⟨y,N,h⟩
   have bad:=IT (p:=λy=>x.hold I y) hy J;generalize F.hold I x y=g at*;rw[CF,AD];simp only[Aa,AB 265 16];obtain⟨xo,xn,xi,xk⟩:=x;obtain⟨yc,yv,yp⟩:=y;simp only[F.V_eq,Th.V_eq,AM]at q;simp[hy,F.V_eq,Th.V_eq,AM];refine⟨_,_,⟨rfl,rfl⟩,_,q,?_⟩;cases g with
   |true=>simp[AA,AB 265 17,AW 265,good rfl]
   |false=>
    simp[AD,AB 265 15,hw,W];exact bad rfl
  .have O:k=ps.length:=AE;subst O;rw[Bj,AN];have:R=false:=by rw[<-G,tD];simpa using J
   simp[AA,AB 265 18,AW 265,this]
 have qk:=λk hk=>b3 k hk _ ht b4 b5;clear b3;by_cases c4:op=4
 .subst c4;simp at G;simp[AB 265 2,AO,AH,AJ,AY,AB 265 9,AB 265 12,AB 265 19,AB 265 20];refine Aw kids.length (λk=>⟨[(0,(pa:D)),(4,.R 0 0),(5,.R 1 0),(11,(k:D))],[.cells (F.mk 4 n ins kids).cells,.cells (Th.mk cs vs ps).cells]⟩) (λk=>∀y∈kids.take k,(!y.hold I (.mk cs vs ps))=false) (by simp[F.cells,F.op,F.n,F.ins,F.kids,Th.cells,Th.cs,Th.vs,Th.ps,AM]) Ac ?_;intro k hk J;simp only[Zw,BG 265 2,AB 265 21,F.cells,F.op,F.n,F.ins,F.kids,Th.cells,Th.cs,Th.vs,Th.ps,AM];simp;by_cases W:k <kids.length
  .obtain⟨y,hy⟩:∃y,kids[k]?=some y:=⟨_,rW W⟩;have N:=rY hy;have hw:=Bt k;have q:=qk y N;have good:y.hold I (.mk cs vs ps)=false->R=false:=λh=>by rw[<-G,List.all_eq_false];exact⟨y,N,by simp[h]⟩
   have bad:=IT (p:=λy=> !y.hold I (.mk cs vs ps)) hy J;generalize F.hold I y (.mk cs vs ps)=g at*;rw[CF,AD];simp only[Aa,AB 265 23];obtain⟨yo,yn,yi,yk⟩:=y;simp only[F.V_eq,Th.V_eq,AM]at q;simp[hy,F.V_eq];refine⟨_,_,⟨rfl,rfl⟩,_,q,?_⟩;cases g with
   |false=>simp[AA,AB 265 24,AW 265,good rfl]
   |true=>
    have bad:=bad rfl;simp only[Bool.not_eq_false']at bad;simp[AD,AB 265 22,hw,W];exact bad
  .have O:k=kids.length:=AE;subst O;rw[Bj,AN];have:R=true:=by rw[<-G,ry];simpa using J
   simp[AA,AB 265 25,AW 265,this]
 by_cases c5:op=5
 .subst c5;simp at G;simp[AB 265 2,AO,AH,AJ,AY,AB 265 9,AB 265 12,AB 265 19,AB 265 26,AB 265 27];refine Aw kids.length (λk=>⟨[(0,(pa:D)),(4,.R 0 0),(5,.R 1 0),(12,(k:D))],[.cells (F.mk 5 n ins kids).cells,.cells (Th.mk cs vs ps).cells]⟩) (λk=>∀y∈kids.take k,y.hold I (.mk cs vs ps)=false) (by simp[F.cells,F.op,F.n,F.ins,F.kids,Th.cells,Th.cs,Th.vs,Th.ps,AM]) Ac ?_;intro k hk J;simp only[Zw,BG 265 3,AB 265 28,F.cells,F.op,F.n,F.ins,F.kids,Th.cells,Th.cs,Th.vs,Th.ps,AM];simp;by_cases W:k <kids.length
  .obtain⟨y,hy⟩:∃y,kids[k]?=some y:=⟨_,rW W⟩;have N:=rY hy;have hw:=Bt k;have q:=qk y N;have good:y.hold I (.mk cs vs ps)=true->R=true:=λh=>by rw[<-G,tX];exact⟨y,N,h⟩
   have bad:=IT (p:=λy=>y.hold I (.mk cs vs ps)) hy J;generalize F.hold I y (.mk cs vs ps)=g at*;rw[CF,AD];simp only[Aa,AB 265 30];obtain⟨yo,yn,yi,yk⟩:=y;simp only[F.V_eq,Th.V_eq,AM]at q;simp[hy,F.V_eq];refine⟨_,_,⟨rfl,rfl⟩,_,q,?_⟩;cases g with
   |true=>simp[AA,AB 265 31,AW 265,good rfl]
   |false=>
    simp[AD,AB 265 29,hw,W];exact bad rfl
  .have O:k=kids.length:=AE;subst O;rw[Bj,AN];have:R=false:=by rw[<-G,tD];simpa using J
   simp[AA,AB 265 32,AW 265,this]
 by_cases c6:op=6
 .subst c6;have U:∃x,kids=[x]:=by unfold BC at m1;simp[F.op,F.n,F.ins,F.kids]at m1;exact List.length_eq_one_iff.1 m1.2
  obtain⟨x,rfl⟩:=U;simp[F.hold1]at G;have q:=qk x Ac;generalize F.hold I x (.mk cs vs ps)=g at*;obtain⟨xo,xn,xi,xk⟩:=x;simp only[F.V_eq,Th.V_eq,AM]at q;simp[AB 265 2,AO,AH,AJ,AB 265 9,AB 265 12,AB 265 19,AB 265 26,AB 265 33];simp only[Aa,AB 265 34];simp[F.V_eq];refine⟨_,_,⟨rfl,rfl⟩,_,q,?_⟩;simp[AA,AW 265,G]
 .simp[c1,c2,c3,c4,c5,c6]at G;simp[c1,c2,c3,c4,c5,c6,AB 265 2,AO,AH,AJ,AB 265 9,AB 265 12,AB 265 19,AB 265 26,AB 265 33,AD,AB 265 35,AA,AW 265,G]
theorem eK{I:Int->Int->Bool}(hp:pa.length<=2^40)(hI:∀a b:Int,0<=a->a <pa.length->0<=b->b <pa.length->PX 311 [pa,a,b] [.bool (I a b)])(f:F)(W:f.ok)(t:Th)(Z:t.ok)(hs:t.size<=2^40):PX 164 [pa,f.V,t.V] [(decide (Cq pa.length f t=0)&&f.hold I t:V),((Cq pa.length f t:Int):V)]:=by
 refine BS 164 ?_;obtain⟨E,G⟩:∃E,Cq pa.length f t=E:=⟨_,rfl⟩;have q1:=(W5 f W).fsp;have q2:=(ei t Z hs).fsp;have q3:=(lJ pa.length f W).fsp;have q4:=(lI pa.length t Z).fsp;have q5:=λh1 h2 h3 h4=>(lF hI f W (Vg h1) h2 t Z h3 h4).fsp;have J:IZ t=0->t.formed=true:=λh=>by
  unfold IZ at h;split at h
  .split at h
   .assumption
   .cases h
  .cases h
 rw[G];unfold Cq at G;generalize A6 f=e1 at*;generalize IZ t=e2 at*;generalize f.nodes.all (Hi pa.length)=O at*;generalize t.kinds pa.length=K at*;generalize f.hold I t=B at*;generalize t.formed=T at*;obtain⟨op,n,ins,kids⟩:=f;obtain⟨cs,vs,ps⟩:=t;simp only[F.V_eq,Th.V_eq,AM]at*;simp at q1 q2 q3 q4;simp only[As 164,AH,AJ,AO,AB 164 0,AB 164 1,Ad];simp;refine⟨_,_,q1 _,?_⟩;by_cases N:e1=0
 .subst N;simp at G;simp[AB 164 2,AD];simp only[AB 164 4];simp;refine⟨_,_,q2 _,?_⟩;by_cases U:e2=0
  .subst U;simp at G;simp[AB 164 5];simp only[AB 164 7];simp;refine⟨_,_,q3 _,?_⟩;cases O with
   |false=>
    simp at G;subst G;simp[AA,AB 164 8,AW 164]
   |true=>
    simp;refine⟨_,_,q4 _,?_⟩;cases K with
    |false=>
     simp at G;subst G;simp[AA,AB 164 8,AW 164]
    |true=>
     simp at G;subst G;have q:=q5 rfl rfl (J rfl) rfl;simp at q;simp;simp only[AB 164 9];simp;refine⟨_,_,q _,?_⟩;simp[AA,AW 164]
  .simp[U]at G;subst G;simp[AB 164 5,U,AA,AB 164 6,AW 164]
 .simp[N]at G;subst G;simp[AB 164 2,N,AA,AB 164 3,AW 164]
end
def dg(l:List Clm)(J:∀c∈l,c.ok)(N:l.length<=2^40)(O:CB l=0)(i:Nat)(hi:i <l.length):PX 261 [(l.map Clm.V:V),i] [((0:Int):V)]:=by refine BS 261 ?_;have q:=(Zz l J N).fsp;rw[O]at q;simp at q;have G:¬(i:Int) <0:=AE;have h2:¬(l.length:Int)<=i:=AE;simp only[As 261,AH,AJ,AO,AB 261 0,AB 261 1,Ad];simp;refine⟨_,_,q _,?_⟩;simp[AB 261 2,AD,AB 261 4,G,h2];simp[AB 261 6,AA,AW 261]
def ZH:AC:=(.seq (.reg (oG 185 10) [0,5,9,11,24,25,26,31,32,33]) (.block 2 (.loop (lG 185 1))))
def T4:(lG 185 0)=(.seq (.reg (oG 185 8) [0,5,9,24,25,26,27]) (.seq (.cond (.t 27 false) .skip (.exit 0)) (.seq (.block 1 (.seq (.reg (oG 185 9) [0,5,9,11,24,25,26]) ZH)) (.reg (oG 185 22) [0,5,9,24,25,26])))):=(BG 185 0 :)
section
def k9(r:Rgt)(f i:Int)(h:List Row)(q:Nat)(N:h[q]?=some (.cells [f,i]))(J:Low h):FX 276 [.v r.V,.R q 0] h [.v (.bool (r.file==f))] h:=by refine At (D6 276) rfl (ri _) J (by simp[D.lt]) ?_;have G:=λZ=>AU Z N;simp[As 276,awp,AB 276 0,AB 276 1,AW 276,AZ,Rgt.V,Rgt.cs,G]
def k8(d:Dat)(f i j day:Int)(ds:List D)(h:List Row)(a b c:Nat)(ha:h[a]?=some (.cells [f,i]))(hb:h[b]?=some (.cells [j]))(hc:h[c]?=some (.cells ds))(hd:ds[3]?=some (day:D))(hl:Low h):
  FX 278 [.v d.V,.R a 0,.R b 0,.R c 0] h [.v (.bool (((d.cl==i)&&(d.ix==j))&&decide (d.day <day)))] h:=by
 refine At (D6 278) rfl (ri _) hl (by simp[D.lt]) ?_;have N:=λZ=>AU Z ha;have O:=λZ=>AU Z hb;have U:=λZ=>AU Z hc;have G:3 <ds.length:=(rZ.1 hd).1;have J:4<=ds.length:=G;have W:ds[3]'G=(day:D):=(rZ.1 hd).2;cases h1:(d.cl==i)&&(d.ix==j)with
 |false=>simp[As 278,awp,AB 278 0,AB 278 1,AW 278,AZ,Dat.V,N,O,h1,V.eqL,V.eq1,AQ]
 |true=>simp[As 278,awp,AB 278 0,AB 278 1,AW 278,AZ,Dat.V,N,O,U,h1,V.eqL,V.eq1,D.part,W,G,J,AQ]
def mkA(a b:F):F:= .mk 4 0 [] (BU a++BU b)
def Ff(acc:List (List F))(c:Clm):List F:=if c.refs=[] then c.body.tops else c.refs.flatMap λr=>((acc[r.toNat]?).getD []).flatMap λa=>c.body.tops.map λb=>mkA a b
def CG(l:List Clm):List (List F):=l.foldl (λacc c=>acc++[Ff acc c]) []
def CV(l:List Clm)(i:Int):List F:=((CG l)[i.toNat]?).getD []
def YG(nc:Int)(al:List F):Prop:=al.length<=64/\∀f∈al,f.ok/\A6 f=0/\f.nodes.all (Hi nc)=true
variable {nc:Int}
def gj{G:List F}(h:YG nc G){f:F}(N:f∈G){t:Th}(U:IZ t=0)(O:t.kinds nc=true):Cq nc f t=0:=by obtain⟨_,h2,J⟩:=h.2 f N;unfold Cq;rw[h2,U,J,O];rfl
def Ro(r:Rgt)(i j day:Int):Bool:=r.dates.any λd=>((d.cl==i)&&(d.ix==j))&&decide (d.day <day)
def IS(I:Int->Int->Bool)(t:Th)(r:Rgt)(i day:Int):Nat->List F->Bool
 |_,[]=>false
 |k,a::al=>(a.hold I t&&Ro r i k day)||IS I t r i day (k+1) al
def UA(I:Int->Int->Bool)(t:Th)(r:Rgt)(i day:Int):Bool:=IS I t r i day 0 (CV r.claims i)
def Mu(I:Int->Int->Bool)(t:Th)(r:Rgt)(i day:Int)(b:F):∀(G:List F)(k:Nat),IS I t r i day k (G++[b])=(IS I t r i day k G||(b.hold I t&&Ro r i ((k+G.length:Nat):Int) day))
 |[],k=>by simp[IS]
 |a::G,k=>by simp only[sw,IS,Mu I t r i day b G (k+1),sF];rw[show k+1+G.length=k+(G.length+1) by omega,Bool.or_assoc]
def ZG:AC:=(.seq (.seq (.reg (oG 186 11) [0,4,5,9,12,13,15,16,37,38,39,53]) (.cond (.t 53 false) (.seq (.reg (oG 186 12) [6,7]) .ret) .skip)) (.reg (oG 186 13) [0,4,5,9,12,37,38,39]))
def T3:(lG 186 0)=(.seq (.reg (oG 186 8) [0,4,5,9,12,37,38,39,40]) (.seq (.cond (.t 40 false) .skip (.exit 0)) (.seq (.block 1 (.seq (.reg (oG 186 9) [0,4,5,9,12,13,14,37,38,39]) (.seq (.reg (oG 186 10) [0,4,5,9,12,13,15,16,37,38,39]) ZG))) (.reg (oG 186 14) [0,4,5,9,12,37,38,39])))):=(BG 186 0 :)
variable {ps:List V}
def oS{bs:List Bool}(c1:ps.length<=64)(b4:bs.length=4096)(H:List Row)(x:Nat)(hx:H[x]?=some (Dw ps bs))(hl:Low H)(t:Th)(ht:t.ok)(c3:IZ t=0)(c4:t.kinds ps.length=true)(r:Rgt)(c2:r.dates.length <2^40)(f i day:Int)(a4 a5 a9:Nat)(d0 d1 d2 d7 d8 d9 b1 b2 b3:D)(h4:H[a4]?=some (.cells [d0,d1,d2,day,.v (AM .i64 t.cs),.v (.list (t.vs.map Val.V)),.v (.list (t.ps.map Th.V)),d7,d8,d9,b1,b2,b3]))(h5:H[a5]?=some (.cells [f,i]))(h9:H[a9]?=some (.cells (r.cs.map .v)))(G:List F)(has:YG ps.length G)(Q:AExit->St->Prop)(hQ:∀e J,AK e 12= .v (.bool (IS (Cj ps.length bs) t r i day 0 G))->Q (.exit 0) ⟨e,H++J⟩):
  AX (.loop (lG 186 0)) Q ⟨[(0,.R x 0),(4,.R a4 0),(5,.R a5 0),(9,.R a9 0),(12,.v (.bool false)),(37,.v (.list (G.map F.V))),(38,(G.length:D)),(39,((0:Nat):D))],H⟩:=by
 refine Ag G.length (λk s=>∃J,Lows J/\s=⟨[(0,.R x 0),(4,.R a4 0),(5,.R a5 0),(9,.R a9 0),(12,.v (.bool (IS (Cj ps.length bs) t r i day 0 (G.take k)))),(37,.v (.list (G.map F.V))),(38,(G.length:D)),(39,(k:D))],H++J⟩)
  ⟨[],Lows.nil,by simp[IS]⟩ ?_
 rintro k s hk ⟨J,hJ,rfl⟩;rw[T3];simp only[Zw,AB 186 8];simp;by_cases U:k <G.length
 .obtain⟨a,ha⟩:∃a,G[k]?=some a:=⟨_,rW U⟩;have a6:=rY ha;have c6:=has.1;have w1:=Bt k;have b0:G.take (k+1)=G.take k++[a]:=by rw[rx,ha];rfl
  have a7:=Mu (Cj ps.length bs) t r i day a (G.take k) 0;rw[<-b0,sJ,tY AE,tI]at a7;rw[a7];have c5:=λZ=>AU Z hx;have W:=λZ=>AU Z h4;have a1:=λZ=>AU Z h5;have a2:=λZ=>AU Z h9;have c0:∀n,Row.low n (.cells [k])=true:=λn=>by simp[Row.low,D.lts,D.lt]
  have b9:∀n,Row.low n (.cells a.cells)=true:=λn=>Nr n a;have N:Lows (J++[.cells [k],.cells a.cells]):=by have:=(hJ.app c0).app b9;simpa using this
  have q1:=pt c1 b4 a (has.2 a a6).1 t ht (H++(J++[.cells [k],.cells a.cells])) x (c5 _) (hl.lows N);rw[gj has a6 c3 c4]at q1;simp only[decide_true,sV]at q1;have hH:Low (H++(J++[.cells [k],.cells a.cells])):=hl.lows N;have a8:IdxR Tryz.prog BK 278 [.R a5 0,.R (H.length+J.length) 0,.R a4 0] (r.dates.map Dat.V) (H++(J++[.cells [k],.cells a.cells])) (r.dates.findIdx? λd=>((d.cl==i)&&(d.ix==(k:Int)))&&decide (d.day <day)) (H++(J++[.cells [k],.cells a.cells])):=
   IdxR.map λd _=>k8 d f i k day _ _ a5 (H.length+J.length) a4 (a1 _) (by rw[BQ H _ _ J.length rfl];simp) (W _) rfl hH
  have O:=da (.func 278 [.R a5 0,.R (H.length+J.length) 0,.R a4 0]) 278 _ (FV.r 278 a5 0 [.R (H.length+J.length) 0,.R a4 0]) (r.dates.map Dat.V) (by simpa using c2) (by intro x hx;obtain⟨y,_,rfl⟩:=rl.1 hx;exact⟨_,rfl,rfl⟩) a8
  rw[DG]at O;have b5:(r.dates.any λd=>((d.cl==i)&&(d.ix==(k:Int)))&&decide (d.day <day))=Ro r i k day:=rfl;rw[b5]at O;generalize Ro r i k day=B at*;generalize IS (Cj ps.length bs) t r i day 0 (G.take k)=A at*;generalize a.hold (Cj ps.length bs) t=T at*;obtain⟨fo,fn,fi,fk⟩:=a;obtain⟨cs,vs,pa⟩:=t;obtain⟨file,state,force,claims,dates,bad,owners,lics⟩:=r;simp only[F.cells,F.op,F.n,F.ins,F.kids,F.V_eq,Th.cs,Th.vs,Th.ps,Th.V_eq,Rgt.cs,AM]at*;simp at q1 O W a1 a2;rw[CF,AD];simp only[AB 186 9];simp[ha,F.V_eq,AQ];simp only[AB 186 10];simp[W];refine⟨_,_,q1,?_⟩;unfold ZG;simp[AH,AJ,AO,AB 186 11,AD];simp only[AB 186 13];simp;cases A with
  |true=>
   simp[AB 186 14,w1,U];exact N
  |false=>
   cases T with
   |false=>
    simp[AB 186 14,w1,U];exact N
   |true=>
    simp[a2];refine⟨_,_,O,?_⟩;simp[AB 186 14,w1,U];exact N
 .have b6:k=G.length:=AE;subst b6;rw[Bj,AN,sE];exact hQ _ _ rfl
end
open Go.Proofs Go.Shelf
def ca:Ren:=⟨λ|4=>245|n=>n,λ|22=>77|25=>84|n=>n,λn=>n⟩
def fE:Lays8.n4 Tryz.prog ca where
 mixed:=HR
 f4:=⟨Tryz.f245.name,HR,Tryz.func245.trans (congrArg some HR)⟩
 t0:=Tryz.underlying0
 a0:=Tryz.isAgg0
 z0:=Tryz.sizeOf0
 v0:=Tryz.zeroValue0
 t3:=Tryz.underlying3
 a3:=Tryz.isAgg3
 z3:=Tryz.sizeOf3
 v3:=Tryz.zeroValue3
 t4:=Tryz.underlying4
 a4:=Tryz.isAgg4
 z4:=Tryz.sizeOf4
 v4:=Tryz.zeroValue4
 t9:=Tryz.underlying9
 a9:=Tryz.isAgg9
 z9:=Tryz.sizeOf9
 v9:=Tryz.zeroValue9
 t20:=Tryz.underlying20
 a20:=Tryz.isAgg20
 z20:=Tryz.sizeOf20
 v20:=Tryz.zeroValue20
 t22:=Tryz.underlying77
 a22:=Tryz.isAgg77
 z22:=Tryz.sizeOf77
 v22:=Tryz.zeroValue77
def aQ:∃i z,Tryz.prog.info? 84=some i/\i.zero=some z/\i.size=4/\z.cells.size=4/\i.bytes<=64:=by
 have G:(match Tryz.prog.info? 84 with|some i=>(match i.zero with|some z=>i.size==4&&z.cells.size==4&&decide (i.bytes<=64)|none=>false)|none=>false)=true:=HR
 cases hi:Tryz.prog.info? 84 with
 |none=>rw[hi]at G;cases G
 |some i=>
  rw[hi]at G;simp only at G;cases hz:i.zero with
  |none=>rw[hz]at G;cases G
  |some z=>
   rw[hz]at G;simp only[rX,beq_iff_eq,decide_eq_true_eq]at G;exact⟨i,z,rfl,hz,G.1.1,G.1.2,G.2⟩
def lh(n:Nat)(hn:n<=2^30)(h:List Row):FX 245 [.nil 84 4,n] h [.W 84 4 []] h:=by
 refine⟨HR,λg w μ us O hinv hgl hall htame=>?_⟩;obtain⟨a1,Bz⟩:=hall;obtain⟨u,v,rfl⟩:∃u v,us=[u,v]:=by
  match us,a1 with
  |[u,v],_=>exact⟨u,v,rfl⟩
 have hu:RepE g w μ (.nil 84 4) u:=Bz 0 _ u rfl rfl;have Z:RepV g (.int .i64 n) v:=Bz 1 (n:D) v rfl rfl;obtain⟨a,rfl,ha⟩:=hu;cases Z;rcases ur n with rfl|hpos
 .have c:=Any8.slices_Grow_room fE a 0 0 0 w AE AE AE AE;refine Calls.mono c ?_;rintro e w' ⟨rfl,rfl⟩;have hc:Chg (λ_=>False) g w' g w':=⟨Gh.le.refl g,ri _,λ_ _ _=>rfl,λ_ _ _ _=>rfl,rfl,rfl⟩;exact⟨_,g,μ,rfl,hinv.newOwn (d:=0) hc hinv.agree (.inl ⟨a,rfl,rfl,ha⟩) (λ_ _=>⟨a,rfl⟩) (by intro b N;cases a<;>simp[Am]at N),hc.mono λ_ h=>h.elim,ro _⟩
 .obtain⟨i0,z,a6,a8,b1,b0,a2⟩:=aQ;have c:=Any8.slices_Grow_grow fE i0 z a6 a8 AE a 0 0 n [] w AE AE (by have:(0+n)*i0.bytes<=2^30*64:=Nat.mul_le_mul AE a2;omega) AE Ac (λ_=>rfl) Ac
  refine Calls.mono c ?_;rintro e w' ⟨rfl,rfl⟩;have hG:=grownCap_ge w (0+n) 0 (ca.t 25);generalize grownCap w (0+n) 0 (ca.t 25)=G at hG ⊢;have a7:(#[]++Builtin.zeroCells z.cells (0+n-0)++Builtin.zeroCells z.cells (G-(0+n))).size=G*4:=by simp only[Array.size_append,size_zeroCells,b0,Array.size_empty];omega
  have U:([].toArray++Builtin.zeroCells z.cells (0+n-0)++Builtin.zeroCells z.cells (G-(0+n))).size=G*4:=a7;generalize [].toArray++Builtin.zeroCells z.cells (0+n-0)++Builtin.zeroCells z.cells (G-(0+n))=W at U ⊢;have hold:∀b,b <w.heap.size->∀x,(w.heap.push x)[b]?=w.heap[b]?:=λb N x=>by rw[Array.getElem?_push,Bj]
  have J:∀b o v,g.m b o=some v->b <w.heap.size:=by
   intro b o v Z;have h2:=hinv.agree b o v Z;rcases sL b w.heap.size with h'|h'
   .exact h'
   .simp[World.cell?,uF h']at h2
  have hc:Chg (λ_=>False) g w g (w.drew.alloc (.cells W (ca.t 25))):=⟨Gh.le.refl g,by show w.heap.size<=(w.heap.push _).size;rw[Array.size_push];omega,λb N _=>hold b N _,λ_ _ _ _=>rfl,rfl,rfl⟩;refine⟨_,g,μ,rfl,hinv.newOwn (d:=0) (e:=84) (s:=4) (xs:=[]) hc (λb o v Z=>?_) (.inr ⟨w.heap.size,G,W,λ_=> .bool false,rfl,AE,by show (w.heap.push _)[w.heap.size]?=_;rw[Array.getElem?_push,if_pos rfl];rfl,by simp,U,Ac,Ac,λo _=>?_⟩) (λ_ h=>absurd rfl h) ?_,hc.mono λ_ h=>h.elim,ro _⟩
  .have h1:=hinv.agree b o v Z;have h2:=hold b (J b o v Z) (.cells W (ca.t 25));rw[World.cell?_of_block (a:=⟨b,o,none⟩) h2];exact h1
  .cases h4:g.m w.heap.size o with
   |none=>rfl
   |some v=>have:=J _ _ _ h4;omega
  .intro b N;simp only[Am]at N;split at N
   .cases N
   .simp only[rV]at N;rw[<-N];exact ri _
def nQ(L:List (List F))(hL:L.length<=2^20)(hn:L.flatten.length<=2^30):PX 140 [.list (L.map λl=> .list (l.map F.V))] [.list (L.flatten.map F.V)]:=by
 refine BS 140 ?_;have hh:∀l:List F,BZ 4 (l.map F.V)=true:=by
  intro l;cases l with
  |nil=>rfl
  |cons x xs=>obtain⟨op,n,ins,kids⟩:=x;simp[F.V_eq,V.cells]
 have q:=lh L.flatten.length hn [];obtain⟨U,hU⟩:∃U:Nat->List F,∀k,U k=(L.take k).flatten:=⟨_,λ_=>rfl⟩;have a2:U 0=[]:=by rw[hU];rfl
 have a6:U L.length=L.flatten:=by rw[hU,sE]
 have J:∀k l,L[k]?=some l->U (k+1)=U k++l:=by intro k l h;rw[hU,hU,rx,h];simp
 have N:∀k,(U k).length<=L.flatten.length:=by
  intro k;rw[hU];conv=>rhs;rw[<-sa k L,List.flatten_append,re]
  omega
 rw[<-a6]at q N ⊢;rw[<-a6]at hn;simp only[As 140,AH,AJ,AY,AB 140 0,AB 140 1,AB 140 2,Ad];simp;refine Ab L.length (λk=>⟨[(0,.v (.list (L.map λl=> .list (l.map F.V)))),(3,.v (.int .i64 (U k).length)),(9,.v (.list (L.map λl=> .list (l.map F.V)))),(10,(L.length:D)),(11,(k:D))],[]⟩) (by simp[a2]) ?_;intro k hk;simp only[Zw,BG 140 0,AB 140 3];simp;by_cases G:k <L.length
 .obtain⟨l,O⟩:∃l,L[k]?=some l:=⟨_,rW G⟩;have w1:=Bt k;have Z:=N (k+1);rw[J k l O,re]at Z;rw[J k l O,re];generalize (U k).length=s at*;have w2:IntKind.i64.wrap ((s:Int)+l.length)=s+l.length:=AS AE AE;have w3:¬((s:Int)+l.length <0):=AE;rw[CF,AD];simp only[AB 140 4,AB 140 5,AB 140 6];have W:L[k]'G=l:=by have:=rW G;rw[O]at this;exact(tR this).symm
  simp[W,w2,w3,AD,AB 140 8,w1,G]
 .have a7:k=L.length:=AE;subst a7;rw[Bj,AN];simp only[AB 140 9];simp
  first|refine⟨_,_,q,?_⟩|refine⟨_,q,?_⟩|refine⟨_,⟨_,q⟩,?_⟩|exact⟨_,q⟩|exact⟨_,_,q⟩|refine⟨⟨_,q⟩,?_⟩
  simp[AB 140 10];refine Ab L.length (λk=>⟨[(6,.W 84 4 ((U k).map F.V)),(25,.v (.list (L.map λl=> .list (l.map F.V)))),(26,(L.length:D)),(27,(k:D))],[]⟩) (by simp[a2]) ?_;intro k hk;simp only[Zw,BG 140 1,AB 140 11];simp;by_cases G:k <L.length
  .obtain⟨l,O⟩:∃l,L[k]?=some l:=⟨_,rW G⟩;have w1:=Bt k;have Z:=N (k+1);rw[J k l O,re]at Z;rw[J k l O,r9];generalize U k=s at*;have a1:AV (s.length+l.length) 64=true:=by simp[AV];omega
   rw[CF,AD];simp only[AB 140 12,AB 140 13];have W:L[k]'G=l:=by have:=rW G;rw[O]at this;exact(tR this).symm
   simp[W,hh,a1,AB 140 14,w1,G]
  .have a8:k=L.length:=AE;subst a8;rw[Bj,AN];simp[AB 140 15,AA,AW 140]
section
variable {K:St->Prop} {n:Nat} {s:St}
section
variable {P:Program} {GL:Ai}
def WP{is:List GI}{Az:List (List Nat)}(I:List Nat->St->Prop)(U:∀G i s,G.Nodup->(∀j∈G,j <n)->i∈G->(∀j∈(Az[i]?).getD [],j∉G)->(∀j <n,j∉G->i∉(Az[j]?).getD [])->I G s->Ec P GL (is.getD i default) (λs1=>I (G.erase i) s1) s)(W:∀s,I [] s->K s):∀(k:Nat)(G:List Nat)(s:St),G.length=k->G.Nodup->(∀j∈G,j <n)->YH Az n G->I G s->NQ P GL is Az K k G s:=by
 intro k;induction k with
 |zero=>
  intro G s hk _ _ _ hi;have:G=[]:=sf hk;subst this;exact W s hi
 |succ k ih=>
  intro G s hk a8 a7 hd hi i N J;refine Ku (λs1 h1=>ih (G.erase i) s1 ?_ (a8.erase i) (λj Z=>a7 j (uL Z)) ?_ h1) (U G i s a8 a7 N J (λj Z O b0=>hd j Z O i b0 N) hi)
  .rw[vC N];omega
  .intro j Z O k2 a2 b1;have a6:k2∈G:=uL b1;by_cases a1:j=i
   .subst a1;exact J k2 a2 a6
   .exact hd j Z (λhm=>O ((vB a1).2 hm)) k2 a2 a6
theorem WQ{is:List GI}{Az:List (List Nat)}(I:(Nat->Bool)->St->Prop)(N:∀d i s,i <n->d i=false->(∀j∈(Az[i]?).getD [],d j=true)->(∀j <n,i∈(Az[j]?).getD []->d j=false)->I d s->Ec P GL (is.getD i default) (λs1=>I (C8 d i) s1) s)(U:∀d s,(∀j <n,d j=true)->I d s->K s)(h0:I (λj=>decide (n<=j)) s):NQ P GL is Az K n (List.range n) s:=by
 refine WP (Az:=Az) (n:=n) (λG s=>I (λj=>decide (j∉G)) s) ?_ ?_ n (List.range n) s Ac vD (λj J=>sM.1 J) ?_ ?_
 .intro G i s a6 a2 hi O a7 W;have e:(λj=>decide (j∉G.erase i))=C8 (λj=>decide (j∉G)) i:=by
   funext j
   simp only[C8,a6.mem_erase_iff];by_cases h1:j=i<;>simp[h1]
  rw[e];exact N (λj=>decide (j∉G)) i s (a2 i hi) (by simpa using hi) (λj J=>by simpa using O j J) (λj J Z=>by have:j∈G:=Classical.byContradiction λh=>a7 j J h Z;simpa using this) W
 .intro s W;exact U _ s (λj _=>Ac) W
 .intro j J a1 i hi;exact absurd (sM.2 J) a1
 .have e:(λj=>decide (j∉List.range n))=λj=>decide (n<=j):=by funext j;simp
  rw[e];exact h0
end
def DV(pre:List V)(g:V)(b:Nat)(d:Nat->Bool):D:=
 if d 7 then (if d 6 then .W 84 4 (pre++[g]) else .pend b 84 4 pre) else if d 0 then .v (.list pre) else .W 84 4 pre
structure I64 (H:List Row) (r6 r8:Nat) (pre:List V) (op n:Int) (ins kids:V) (d:Nat->Bool) (s:St):Prop where
 ex:∃b,s.h=H.set r6 (.cells [DV pre (.agg [.int .i64 op,.int .i64 n,ins,kids]) b d])/\(d 4=true->d 7=false->AK s.e 26=if d 6 then .W 84 4 (pre++[.agg [.int .i64 op,.int .i64 n,ins,kids]]) else .pend b 84 4 pre)/\
  (d 7=true->d 6=false->AK s.e 26= .pptr b 0 pre.length)/\(d 5=true->AK s.e 27= .pptr b 4 pre.length)
 e6:AK s.e 6= .R r6 0
 e8:AK s.e 8= .R r8 0
 e23:d 1=true->AK s.e 23= .agg [.v (.int .i64 op),.v (.int .i64 n),.v ins,.v kids]
 e22:d 0=true->d 4=false->AK s.e 22= .W 84 4 pre
 e24:d 2=true->AK s.e 24= .v (.int .i64 pre.length)
 e25:d 3=true->AK s.e 25= .W 84 4 [.agg [.int .i64 0,.int .i64 0,.list [],.list []]]
theorem qP(H:List Row)(Z r8:Nat)(b5:Z≠r8)(hl:Z <H.length)(pre:List V)(b6:pre.length<=2^20)(op n:Int)(ins kids:V)(h6:H[Z]?=some (.cells [.W 84 4 pre]))(h8:H[r8]?=some (.cells [op,n,.v ins,.v kids]))(K:St->Prop)(hK:∀e,K ⟨e,H.set Z (.cells [.W 84 4 (pre++[.agg [(op:V),(n:V),ins,kids]])])⟩)(e:CC)(f6:AK e 6= .R Z 0)(f8:AK e 8= .R r8 0):
  NQ Tryz.prog BK GH [[],[],[0],[],[0,1,2,3],[0,1,2,3,4],[0,1,2,3,4,5],[0,1,2,3,4]] K 8 (List.range 8) ⟨e,H⟩:=by
 have a2:AV (pre.length+1) 64=true:=by simp[AV];omega
 refine WQ (I64 H Z r8 pre op n ins kids) ?_ ?_ ?_
 .rintro d i ⟨se,sh⟩ hi hdi hdep hup ⟨⟨b,hh,UI,J,a6⟩,e6,e8,e23,e22,e24,e25⟩;simp only at hh UI J a6 e6 e8 e23 e22 e24 e25;subst hh;have b3:∀X,(H.set Z X)[r8]?=some (.cells [op,n,.v ins,.v kids]):=λX=>by rw[sG b5];exact h8
  have W:∀X,(H.set Z X)[Z]?=some X:=λX=>sY hl;have U:i=0\/i=1\/i=2\/i=3\/i=4\/i=5\/i=6\/i=7:=AE;rcases U with rfl|rfl|rfl|rfl|rfl|rfl|rfl|rfl
  .have N:=hup 4 Ah Ac;have O:=hup 7 Ah Ac;have d5:=hup 5 Ah Ac;simp[Ec,GH,e6,W,DV,hdi,O];refine⟨⟨b,?_,?_,?_,?_⟩,?_,?_,?_,?_,?_,?_⟩<;>simp_all [C8,DV]
  .simp[Ec,GH,e8,b3];refine⟨⟨b,?_,?_,?_,?_⟩,?_,?_,?_,?_,?_,?_⟩<;>simp_all [C8,DV]
  .have d0:=hdep 0 Ac;have N:=hup 4 Ah Ac;have a1:=e22 d0 N;simp[Ec,GH,a1];refine⟨⟨b,?_,?_,?_,?_⟩,?_,?_,?_,?_,?_,?_⟩<;>simp_all [C8,DV]
  .have N:=hup 4 Ah Ac;simp[Ec,GH];refine⟨⟨b,?_,?_,?_,?_⟩,?_,?_,?_,?_,?_,?_⟩<;>simp_all [C8,DV]
  .have d0:=hdep 0 Ac;have d3:=hdep 3 Ac;have d5:=hup 5 Ah Ac;have d6:=hup 6 Ah Ac;have O:=hup 7 Ah Ac;have a1:=e22 d0 hdi;have b1:=e25 d3;simp[Ec,GH,a1,b1,EC,a2];intro b';refine⟨⟨b',?_,?_,?_,?_⟩,?_,?_,?_,?_,?_,?_⟩<;>simp_all [C8,DV]
  .have N:=hdep 4 Ac;have d2:=hdep 2 Ac;have d6:=hup 6 Ah Ac;have a8:=e24 d2;cases O:d 7 with
   |true=>
    have G:=J O d6;simp[Ec,GH,a8,G];refine⟨⟨b,?_,?_,?_,?_⟩,?_,?_,?_,?_,?_,?_⟩<;>simp_all [C8,DV]
   |false=>
    have G:=UI N O;rw[d6]at G;simp at G;simp[Ec,GH,a8,G];refine⟨⟨b,?_,?_,?_,?_⟩,?_,?_,?_,?_,?_,?_⟩<;>simp_all [C8,DV]
  .have N:=hdep 4 Ac;have d1:=hdep 1 Ac;have d5:=hdep 5 Ac;have a7:=e23 d1;have b0:=a6 d5;cases O:d 7 with
   |true=>
    have G:=J O hdi;simp[Ec,GH,a7,G,b0,e6,W,DV,O,hdi,D.vs?,D.v?,V.cells];refine⟨⟨b,?_,?_,?_,?_⟩,?_,?_,?_,?_,?_,?_⟩<;>simp_all [C8,DV]
   |false=>
    have G:=UI N O;rw[hdi]at G;simp at G;simp[Ec,GH,a7,G,b0,D.vs?,D.v?,V.cells];refine⟨⟨b,?_,?_,?_,?_⟩,?_,?_,?_,?_,?_,?_⟩<;>simp_all [C8,DV]
  .have N:=hdep 4 Ac;have G:=UI N hdi;cases d6:d 6 with
   |true=>
    rw[d6]at G;simp at G;simp[Ec,GH,G,e6,W,DV,hdi];refine⟨⟨b,?_,?_,?_,?_⟩,?_,?_,?_,?_,?_,?_⟩<;>simp_all [C8,DV]
   |false=>
    rw[d6]at G;simp at G;simp[Ec,GH,G,e6,W,DV,hdi];refine⟨⟨b,?_,?_,?_,?_⟩,?_,?_,?_,?_,?_,?_⟩<;>simp_all [C8,DV]
 .rintro d ⟨se,sh⟩ hd ⟨⟨b,hh,_⟩,_⟩;simp only at hh;subst hh;have h7:=hd 7 Ah;have b2:=hd 6 Ah;simp only[DV,h7,b2,if_true];exact hK se
 .refine⟨⟨0,?_,?_,?_,?_⟩,f6,f8,?_,?_,?_,?_⟩<;>simp[DV]
  obtain⟨b4,hg⟩:=rZ.1 h6;rw[<-hg];exact(vM b4).symm
section
variable (h:List Row) (C B:Row) (e0:CC)
def UJ(h:List Row)(C B:Row)(e0:CC)(own:List V)(t:Tag):List Row:=h++[C,.cells [.W 84 4 own],B,A5 Tryz.prog BK t e0 [21] (lG 64 0) (lG 64 1000)]
theorem qF(h6:AK e0 6= .R (h.length+1) 0)(pre:List F)(G:pre.length<=2^20)(g:F)(J:List Row):
  Ky Tryz.prog BK (h.length+3) [.v g.V] (UJ h C B e0 (pre.map F.V) .ready++J) true (UJ h C B e0 ((pre++[g]).map F.V) .ready++(J++[.cells g.cells])):=by
 refine CK (e0:=e0) (ps:=[21]) (asg:=(lG 64 0)) (body:=(lG 64 1000)) (by simp[UJ]) rfl ?_;obtain⟨op,n,ins,kids⟩:=g;have Z:=λ(H:List Row)(O:Nat)(N:h.length+1≠O)(W:h.length+1 <H.length)(hx:H[h.length+1]?=some (.cells [.W 84 4 (pre.map F.V)]))(U:H[O]?=some (.cells [op,n,(ins.map Ivl.V:D),(kids.map F.V:D)]))K hK e f6 f8=>
  qP H (h.length+1) O N W (pre.map F.V) (by simpa using G) op n (ins.map Ivl.V:V) (kids.map F.V:V) hx U K hK e f6 f8
 simp only[F.cells,F.op,F.n,F.ins,F.kids,F.V_eq,UJ,E5,BG 64 0,BG 64 1000,AJ,AY,AB 64 3];simp[h6,AQ];rw[WM,nb];refine Z _ (h.length+(J.length+4)) AE Ac Ac Ac _ ?_ _ rfl rfl;intro e;simp[BH,F.V_eq]
end
end
def oB(H:List Row)(a:F)(W:Nat)(b6:H[W]?=some (.cells a.cells))(G N:List F)(hb:∀b∈G,(mkA a b).ok/\A6 (mkA a b)=0)(c2:N.length+G.length<=64)(d1 d6 a1 a2 a6 a7 a8 b0:D)(J:List Row)(Q:AExit->St->Prop)(hQ:∀J' e,AK e 1=d1->AK e 6=d6->AK e 7= .W 84 4 ((N++G.map (mkA a)).map F.V)->AK e 37=a1->AK e 38=a2->AK e 39=a6->AK e 62=a7->AK e 63=a8->AK e 64=b0->Q (.exit 6) ⟨e,H++J'⟩):
  AX (.loop (lG 64 3)) Q ⟨[(1,d1),(6,d6),(7,.W 84 4 (N.map F.V)),(14,.R W 0),(37,a1),(38,a2),(39,a6),(62,a7),(63,a8),(64,b0),(68,(G.map F.V:D)),(69,(G.length:D)),(70,((0:Nat):D))],H++J⟩:=by
 refine Ag G.length (λk s=>∃J',s=⟨[(1,d1),(6,d6),(7,.W 84 4 ((N++(G.take k).map (mkA a)).map F.V)),(14,.R W 0),(37,a1),(38,a2),(39,a6),(62,a7),(63,a8),(64,b0),(68,(G.map F.V:D)),(69,(G.length:D)),(70,(k:D))],H++J'⟩) ⟨J,Ac⟩ ?_;rintro k s hk ⟨J',rfl⟩;have U:=λZ=>AU Z b6;simp only[Zw,BG 64 3,AB 64 17];by_cases b4:k <G.length
 .obtain⟨b,b1⟩:∃b,G[k]?=some b:=⟨_,rW b4⟩;obtain⟨b5,O⟩:=hb b (rY b1);have w1:=Bt k;have c1:G.take (k+1)=G.take k++[b]:=by rw[rx,b1];rfl
  have q1:=eN a;have q2:=eN b;have q3:=nQ [BU a,BU b] Ac (by
   have b3:(mkA a b).size<=1000:=by
    unfold A6 at O;split at O
    .cases O
    .omega
   unfold mkA at b3;rw[F.size_eq]at b3;have:=F.kids_len (BU a++BU b);simp at this ⊢;simp at b3;omega)
  have q4:=(cE (mkA a b) b5).fsp;rw[O]at q4;rw[c1];have c3:((G.take k).map (mkA a)).length<=k:=by rw[sD,sJ];omega
  rw[r9 (f:=mkA a)];generalize (G.take k).map (mkA a)=R at*;have b2:AV (N.length+R.length+1) 64=true:=by simp[AV];omega
  simp only[mkA]at q4;simp only[rq,sq,mkA];have b9:[BU a,BU b].flatten=BU a++BU b:=Ac;rw[b9]at q3;generalize BU a=pa at*;generalize BU b=pb at*;obtain⟨ao,an,ai,ak⟩:=a;obtain⟨bo,bn,bi,bk⟩:=b;simp only[F.V_eq,F.cells,F.op,F.n,F.ins,F.kids]at*;simp at q3 q4 U;simp;rw[CF,AD];simp only[AB 64 18];simp[b1,F.V_eq,AQ];simp only[Aa,AB 64 19];simp[U];refine⟨_,_,⟨rfl,rfl⟩,_,q1,?_⟩;simp;refine⟨_,_,⟨rfl,rfl⟩,_,q2,?_⟩;simp;refine⟨_,_,⟨rfl,rfl⟩,_,q3,?_⟩;simp[AQ];simp only[AB 64 20];simp;refine⟨_,_,q4 _,?_⟩;simp[AD,AB 64 22,b2,AB 64 23,w1,b4]
 .have c0:k=G.length:=AE;subst c0;simp;rw[AN];refine hQ _ _ ?_ ?_ ?_ ?_ ?_ ?_ ?_ ?_ ?_<;>simp
def oC(H:List Row)(r6:Nat)(G O N:List F)(h6:H[r6]?=some (.cells [.W 84 4 (O.map F.V)]))(hb:∀a∈G,∀b∈O,(mkA a b).ok/\A6 (mkA a b)=0)(e1:N.length+G.length*O.length<=64)(d9:G.length<=2^20)(d1 W a1 a2:D)(J:List Row)(Q:AExit->St->Prop)(hQ:∀J' e,AK e 1=d1->AK e 6= .R r6 0->AK e 7= .W 84 4 ((N++G.flatMap λa=>O.map (mkA a)).map F.V)->AK e 37=W->AK e 38=a1->AK e 39=a2->Q (.exit 4) ⟨e,H++J'⟩):
  AX (.loop (lG 64 2)) Q ⟨[(1,d1),(6,.R r6 0),(7,.W 84 4 (N.map F.V)),(37,W),(38,a1),(39,a2),(62,(G.map F.V:D)),(63,(G.length:D)),(64,((0:Nat):D))],H++J⟩:=by
 obtain⟨U,hU⟩:∃U:Nat->List F,∀k,U k=N++(G.take k).flatMap λa=>O.map (mkA a):=⟨_,λ_=>rfl⟩;have d2:U 0=N:=by rw[hU];simp
 have d4:U G.length=N++G.flatMap λa=>O.map (mkA a):=by rw[hU,sE]
 have d5:∀k a,G[k]?=some a->U (k+1)=U k++O.map (mkA a):=by intro k a h;rw[hU,hU,rx,h];simp
 have d3:∀k,k<=G.length->(U k).length=N.length+k*O.length:=by
  intro k hk;have:∀l:List F,(l.flatMap λa=>O.map (mkA a)).length=l.length*O.length:=by
   intro l;induction l with
   |nil=>simp
   |cons x l ih=>rw[r7,re,ih,sD,sF,tZ];omega
  rw[hU,re,this,sJ,tY hk]
 rw[<-d4]at hQ;refine Ag G.length (λk s=>∃J',s.h=H++J'/\AK s.e 1=d1/\AK s.e 6= .R r6 0/\AK s.e 7= .W 84 4 ((U k).map F.V)/\AK s.e 37=W/\AK s.e 38=a1/\AK s.e 39=a2/\AK s.e 62=(G.map F.V:D)/\AK s.e 63=(G.length:D)/\AK s.e 64=(k:D)) ⟨J,rfl,rfl,rfl,by simp[d2],rfl,rfl,rfl,rfl,rfl,rfl⟩ ?_;rintro k ⟨se,sh⟩ hk ⟨J',rfl,f1,f6,f7,a8,b0,b1,b2,b3,b4⟩;simp only at f1 f6 f7 a8 b0 b1 b2 b3 b4;have c9:=λZ=>AU Z h6;simp only[Zw,BG 64 2,AB 64 14];simp[f1,f6,f7,a8,b0,b1,b2,b3,b4];by_cases a7:k <G.length
 .obtain⟨a,a6⟩:∃a,G[k]?=some a:=⟨_,rW a7⟩;have w1:=Bt k;have d8:=d3 k AE;have hm:(k+1)*O.length<=G.length*O.length:=t7 _ a7;rw[tZ]at hm;have hc:=λH2 b6 c8 d6 b9 c0 c1 J Q=>oB H2 a b6 c8 O (U k) (hb a (rY a6)) (by rw[d8];omega) d1 d6 W a1 a2 b9 c0 c1 J Q;rw[d5 k a a6];generalize U k=R at*;have b5:=hc (H++J'++[.cells a.cells]) (H.length+J'.length) (by simp) (.R r6 0) (G.map F.V:D) (G.length:D) (k:D) []
  obtain⟨ao,an,ai,ak⟩:=a;simp only[F.cells,F.op,F.n,F.ins,F.kids]at*;rw[CF,AD];simp only[AB 64 15];simp[a6,F.V_eq,AQ];simp only[AB 64 16];simp[c9];simp at b5;refine b5 _ ?_;intro J2 e g1 g6 g7 c2 c3 c4 c5 c6 c7;simp[AB 64 24,g1,g6,g7,c2,c3,c4,c5,c6,c7,w1,a7]
 .have d7:k=G.length:=AE;subst d7;rw[Bj,AN];refine hQ _ _ ?_ ?_ ?_ ?_ ?_ ?_<;>simp
def Ya(h:List Row)(C B:Row)(e0:CC)(h6:AK e0 6= .R (h.length+1) 0):∀(l pre:List F),pre.length+l.length<=2^20->
  RunY Tryz.prog BK (h.length+3) (l.map F.V) (UJ h C B e0 (pre.map F.V) .ready) true (UJ h C B e0 ((pre++l).map F.V) .ready)
 |[],pre,_=>⟨rfl,by rw[sk]⟩
 |g::l,pre,hn=>by have G:pre.length+(l.length+1)<=2^20:=hn;refine⟨true,UJ h C B e0 ((pre++[g]).map F.V) .ready,by simp[UJ],λJ=>⟨[.cells g.cells],qF h C B e0 h6 pre AE g J⟩,?_⟩;have:=Ya h C B e0 h6 l (pre++[g]) (by rw[re];simp;omega);rw[rn]at this;exact this
def im(k:Nat)(acc:List (List F)):Cr false [0] (k:V) (Eb 0 (acc.map λl=>V.list (l.map F.V)))=some (if k <acc.length then some k else none):=by rw[H8 false];simp
def oD(H:List Row)(r6 mx:Nat)(acc:List (List F))(d3:H[mx]?=some (EQ (acc.map λl=>V.list (l.map F.V))))(refs:List Int)(a6:∀r∈refs,0<=r/\r <acc.length)(d7:refs.length<=8)(N:List F)(h6:H[r6]?=some (.cells [.W 84 4 (N.map F.V)]))(hb:∀r∈refs,∀a∈(acc[r.toNat]?).getD [],∀b∈N,(mkA a b).ok/\A6 (mkA a b)=0)(U:Nat->List F)(hU:∀k,U k=(refs.take k).flatMap λr=>((acc[r.toNat]?).getD []).flatMap λa=>N.map (mkA a))(b6:∀k,k<=refs.length->(U k).length<=64)(b3:∀r∈refs,((acc[r.toNat]?).getD []).length<=64)(d4:N.length<=64)(J:List Row)(Q:AExit->St->Prop)(hQ:∀J' e,AK e 7= .W 84 4 ((U refs.length).map F.V)->Q (.exit 2) ⟨e,H++J'⟩):
  AX (.loop (lG 64 1)) Q ⟨[(1,.mr mx),(6,.R r6 0),(7,.W 84 4 []),(37,.v (AM .i64 refs)),(38,(refs.length:D)),(39,((0:Nat):D))],H++J⟩:=by
 have c7:U 0=[]:=by rw[hU];simp
 have c8:∀k r,refs[k]?=some r->U (k+1)=U k++((acc[r.toNat]?).getD []).flatMap λa=>N.map (mkA a):=by intro k r h;rw[hU,hU,rx,h];simp
 refine Ag refs.length (λk s=>∃J',s.h=H++J'/\AK s.e 1= .mr mx/\AK s.e 6= .R r6 0/\AK s.e 7= .W 84 4 ((U k).map F.V)/\AK s.e 37= .v (AM .i64 refs)/\AK s.e 38=(refs.length:D)/\AK s.e 39=(k:D)) ⟨J,rfl,rfl,rfl,by simp[c7],rfl,rfl,rfl⟩ ?_;rintro k ⟨se,sh⟩ hk ⟨J',rfl,f1,f6,f7,a8,b0,b1⟩;simp only at f1 f6 f7 a8 b0 b1;have c6:=λZ=>AU Z h6;have b9:∀Z,(H++Z)[mx]?=some (.map (Eb 0 (acc.map λl=>V.list (l.map F.V))) (List.range (acc.map λl=>V.list (l.map F.V)).length) (acc.map λl=>V.list (l.map F.V)).length):=λZ=>AU Z d3;simp only[Zw,BG 64 1,AB 64 8];simp[f1,f6,f7,a8,b0,b1,AM];by_cases a2:k <refs.length
 .obtain⟨r,hr⟩:∃r,refs[k]?=some r:=⟨_,rW a2⟩;have a7:=rY hr;have d8:=a6 r a7;have w1:=Bt k;obtain⟨j,rfl⟩:∃j:Nat,r=j:=⟨r.toNat,AE⟩;obtain⟨G,W⟩:∃G,acc[j]?=some G:=⟨_,rW AE⟩;have b4:(acc[((j:Int)).toNat]?).getD []=G:=by simp[W]
  have O:=b6 (k+1) a2;have a1:=hb _ a7;have b2:=b3 _ a7;rw[c8 k _ hr]at O ⊢;rw[b4]at O a1 b2 ⊢;have hf:Cr false [0] (j:V) (Eb 0 (acc.map λl=>V.list (l.map F.V)))=some (some j):=by rw[im,CF]
  have b5:(Eb 0 (acc.map λl=>V.list (l.map F.V)))[j]?=some ((j:V),.list (G.map F.V)):=by have:=IK (acc.map λl=>V.list (l.map F.V)) 0 j (.list (G.map F.V)) (by simp[W]);simpa using this
  have c9:((G.flatMap λa=>N.map (mkA a))).length=G.length*N.length:=by
   clear O a1 b2 W b4 b5;induction G with
   |nil=>simp
   |cons x l ih=>rw[r7,re,ih,sD,sF,tZ];omega
  rw[re,c9]at O;have hc:=λc0 c1 c2 J Q=>oC H r6 G N (U k) h6 a1 O AE (.mr mx) c0 c1 c2 J Q;generalize U k=R at*;rw[CF,AD];simp only[AB 64 9];simp[hr];simp only[AB 64 10];simp[b9,Be,V.eqL,V.eq1,hf,b5,Da];have d6:G.length*N.length<=64:=AE;have w2:IntKind.i64.wrap ((G.length:Int)*N.length)=((G.length*N.length:Nat):Int):=by rw[<-Int.natCast_mul];exact AS AE AE
  have w3:IntKind.i64.wrap ((R.length:Int)+((G.length*N.length:Nat):Int))=((R.length+G.length*N.length:Nat):Int):=by rw[<-tN];exact AS AE AE
  have d5:¬(64 <R.length+G.length*N.length):=AE;simp only[AB 64 11];generalize G.length*N.length=m at*;simp[c6,w2,w3];rw[Bj,AD];simp only[AB 64 13];simp;simp at hc;refine hc _ _ _ _ _ ?_;intro J2 e g1 g6 g7 c3 c4 c5;simp[AB 64 25,g1,g6,g7,c3,c4,c5,w1,a2]
 .have d2:k=refs.length:=AE;subst d2;rw[Bj,AN];exact hQ _ _ Ac
def qc(h:List Row)(hl:Low h)(c:Clm)(b4:c.body.ok)(b6:c.body.tops.length<=64)(mx:Nat)(acc:List (List F))(a8:h[mx]?=some (EQ (acc.map λl=>V.list (l.map F.V))))(a1:∀r∈c.refs,0<=r/\r <acc.length)(b5:c.refs.length<=8)(hb:∀r∈c.refs,∀a∈(acc[r.toNat]?).getD [],∀b∈c.body.tops,(mkA a b).ok/\A6 (mkA a b)=0)(a7:∀k,k<=c.refs.length->((c.refs.take k).flatMap λr=>((acc[r.toNat]?).getD []).flatMap λa=>c.body.tops.map (mkA a)).length<=64)(a6:∀r∈c.refs,((acc[r.toNat]?).getD []).length<=64):
  FX 64 [.v c.V,.mr mx] h [if c.refs=[] then .v (.list ((Ff acc c).map F.V)) else .W 84 4 ((Ff acc c).map F.V),(true:D)] h:=by
 have hd:∀d∈[if c.refs=[] then D.v (.list ((Ff acc c).map F.V)) else .W 84 4 ((Ff acc c).map F.V),(true:D)],D.lt h.length d=true:=by
  intro d hd;simp only[rj,sK,or_false]at hd;rcases hd with rfl|rfl
  .split<;>rfl
  .rfl
 refine At (D6 64) rfl (ri _) hl hd ?_;obtain⟨U,hU⟩:∃U:Nat->List F,∀k,U k=(c.refs.take k).flatMap λr=>((acc[r.toNat]?).getD []).flatMap λa=>c.body.tops.map (mkA a):=⟨_,λ_=>rfl⟩;have b1:U c.refs.length=Ff acc c\/c.refs=[]:=by
  by_cases h0:c.refs=[]
  .exact .inr h0
  .left;rw[hU,sE];unfold Ff;rw[if_neg h0]
 have b3:=λ(H:List Row)r6 hm6 h6 J Q=>oD H r6 mx acc hm6 c.refs a1 b5 c.body.tops h6 hb U hU (λk hk=>by rw[hU];exact a7 k hk) a6 b6 J Q;have b0:=λZ=>nR c.body (h++Z);obtain⟨refs,body⟩:=c;simp only at*;generalize hT:body.tops=T at*;have b9:=λZ=>AU Z a8;simp only[Zw,As 64,AB 64 0,AZ];simp[Clm.V];simp only[AB 64 1];simp;simp only[AB 64 2];simp;have b2:body.V= .agg [(body.op:V),(body.n:V),(body.ins.map Ivl.V:V),(body.kids.map F.V:V)]:=by obtain⟨a,b,c,d⟩:=body;exact F.V_eq ..
 have q:=b0 [.cells [.v (AM .i64 refs),body.op,body.n,(body.ins.map Ivl.V:D),(body.kids.map F.V:D)],.cells [.W 84 4 []]];rw[b2]at q;refine⟨_,_,q,?_⟩;simp;obtain⟨e0,W⟩:∃e0,e0=FI [(1,D.mr mx),(2,.R h.length 0),(6,.R (h.length+1) 0),(7,.W 84 4 []),(20,.func 242 [.R (h.length+2) 0])]:=⟨_,rfl⟩;obtain⟨C,hC⟩:∃C,C=Row.cells [.v (AM .i64 refs),(body.op:D),(body.n:D),(body.ins.map Ivl.V:D),(body.kids.map F.V:D)]:=⟨_,rfl⟩;have O:=Ya h C (.cells body.cells) e0 (by rw[W];simp[FI]) T [] Dd;rw[<-hT]at O;obtain⟨JJ,hp⟩:=lm body b4 (h.length+3) (h.length+2) _ true _ O (by simp[UJ]);refine Dp (h.length+3) Ac 242 [.R (h.length+2) 0] [] _ _ .ready rfl ?_ hp ?_ ?_
 .rw[hC,W];simp[UJ]
 .rw[W];simp[UJ]
 .have G:=λJ Q=>b3 (h++[C,.cells [.W 84 4 (T.map F.V)],.cells body.cells,.dead]) (h.length+1) (AU _ a8) Ac J Q;rw[hT];simp[Cg,UJ];simp at G;rw[hC]at G ⊢;by_cases N:refs=[]
  .subst N;simp only[AB 64 5];simp[AM];simp only[Aa,AB 64 6];simp[AA,AW 64,Ff,hT]
   try omega
  .have c0:¬(refs.length:Int)=0:=by cases refs with|nil=>exact absurd rfl N|cons=>simp;omega
   have a2:=b1.resolve_right N;simp only[AB 64 5];simp[AM,N,AD];simp only[AB 64 7];simp;simp[AM]at G;refine G _ _ ?_;intro J' e g7;rw[a2]at g7;simp[AB 64 26,g7,AA,AW 64]
section
structure FP (s d:Nat) (f:F):Prop where
 nd:∀g∈f.nodes,g.ok1/\BC g=true/\Hi 6 g=true
 sz:f.size<=s
 dp:f.depth<=d
def FP.mono{s d s' G:Nat}{f:F}(h:FP s d f)(J:s<=s')(hd:d<=G):FP s' G f:=⟨h.nd,sS h.sz J,sS h.dp hd⟩
def FP.ok{s d:Nat}{f:F}(h:FP s d f)(J:s<=96)(hd:d<=8):f.ok/\A6 f=0/\f.nodes.all (Hi 6)=true:=by have G:=h.sz;have h2:=h.dp;refine⟨⟨λg hg=>(h.nd g hg).1,AE⟩,?_,ry.2 λg hg=>(h.nd g hg).2.2⟩;unfold A6;rw[Bj,if_pos (ry.2 λg hg=>(h.nd g hg).2.1)]
def Mk{d:Nat}:∀{l:List F},(∀k∈l,k.depth<=d)->F.depths l<=d
 |[],_=>by simp[F.depths]
 |k::ks,h=>by have G:=h k Ac;have h2:=Mk (l:=ks) λx hx=>h x (by simp[hx]);simp only[F.depths];omega
variable {n:Nat}
def FP.node{op:Int}(O:op=4\/op=5){kids:List F}{s d:Nat}(U:∀k∈kids,FP n d k)(W:(kids.map F.size).sum<=s):FP (1+s) (d+1) (.mk op 0 [] kids):=by
 refine⟨λg hg=>?_,by rw[F.size_eq];omega,?_⟩
 .rw[F.nodes_eq]at hg;rcases rj.1 hg with rfl|hg
  .refine⟨⟨?_,by simp[F.n,i64],by simp[F.ins],by simp[F.ins]⟩,?_,?_⟩
   .rcases O with rfl|rfl<;>simp[F.op,i64]
   .rcases O with rfl|rfl<;>simp[BC,F.op,F.n,F.ins]
   .rcases O with rfl|rfl<;>simp[Hi,F.op]
  .obtain⟨k,G,J⟩:=sj.1 hg;exact(U k G).nd g J
 .have:=Mk (l:=kids) λk N=>(U k N).dp;simp only[F.depth];omega
structure CP (c:Clm):Prop where
 lr:c.refs.length<=2
 body:FP 7 3 c.body
 nt:c.body.tops.length<=2
 tops:∀p∈c.body.tops,FP 3 2 p
def sB:Nat->Nat
 |0=>7
 |k+1=>9+2*sB k
variable {b:Nat}
def Pq{a:Nat}(h:a<=b):sB a<=sB b:=by
 induction h with
 |refl=>exact ri _
 |step _ ih=>simp only[sB];omega
def Ub{α:Type}(f:α->Nat)(n:Nat):∀l:List α,(∀x∈l,f x<=n)->(l.map f).sum<=n*l.length
 |[],_=>Ac
 |x::l,h=>by have J:=h x Ac;have h2:=Ub f n l λy G=>h y (by simp[G]);simp only[rq,tV,sF,ux];omega
theorem QG(T:List Clm)(hc:∀c∈T,CP c)(J:∀(k:Nat)(c:Clm),T[k]?=some c->∀r∈c.refs,0<=r/\r <(k:Int)):∀(k:Nat)(c:Clm),T[k]?=some c->FP (sB k) (3+2*k) (B9 (Ax (T.take k)) c):=by
 intro k;induction k using Nat.strongRecOn with
 |_ k ih=>
  intro c hk;have G:=hc c (rY hk);unfold B9;by_cases h0:c.refs=[]
  .rw[if_pos h0];exact G.body.mono (Pq (tB k)) AE
  .rw[if_neg h0];have a7:k <T.length:=(rZ.1 hk).1;have a6:0 <k:=by obtain⟨r,N⟩:=List.exists_mem_of_ne_nil _ h0;have:=J k c hk r N;omega
   obtain⟨j,rfl⟩:∃j,k=j+1:=⟨k-1,AE⟩;have hm:∀r∈c.refs,FP (sB j) (3+2*j) (((Ax (T.take (j+1)))[r.toNat]?).getD c.body):=by
    intro r N;have b0:=J _ c hk r N;have a2:r.toNat <j+1:=AE;obtain⟨U,Z⟩:∃U,T[r.toNat]?=some U:=⟨_,rW AE⟩;have h1:=ih r.toNat a2 U Z;have h2:(Ax (T.take (j+1)))[r.toNat]?=some (B9 (Ax (T.take r.toNat)) U):=by
     have e1:(Ax (T.take (r.toNat+1)))[r.toNat]?=some (B9 (Ax (T.take r.toNat)) U):=by
      rw[Fo T Z];have:(Ax (T.take r.toNat)).length=r.toNat:=by rw[CW,sJ];omega
      rw[sO AE,this,uD];rfl
     rw[Cn T (r.toNat+1) AE,sP,CF]at e1;rw[Cn T (j+1) AE,sP,if_pos a2];exact e1
    rw[h2,sA];exact h1.mono (Pq AE) AE
   have a1:FP (1+sB j*c.refs.length) (3+2*j+1) (.mk 5 0 [] (c.refs.map λr=>((Ax (T.take (j+1)))[r.toNat]?).getD c.body)):=by
    refine FP.node (.inr rfl) (n:=sB j) (λf O=>?_) ?_
    .obtain⟨r,N,rfl⟩:=rl.1 O;exact hm r N
    .have:=Ub F.size (sB j) (c.refs.map λr=>((Ax (T.take (j+1)))[r.toNat]?).getD c.body) λf O=>by obtain⟨r,N,rfl⟩:=rl.1 O;exact(hm r N).sz
     rw[sD]at this;exact this
   have a8:sB j*c.refs.length<=sB j*2:=vJ _ G.lr;have h7:7<=sB j:=Pq (tB j);have W:=FP.node (op:=4) (.inl rfl) (kids:=[c.body,.mk 5 0 [] (c.refs.map λr=>((Ax (T.take (j+1)))[r.toNat]?).getD c.body)]) (s:=8+sB j*2) (d:=3+2*j+1) (n:=7+(1+sB j*2)) (λf O=>by
    simp only[rj,sK,or_false]at O;rcases O with rfl|rfl
    .exact G.body.mono AE AE
    .exact a1.mono AE (ri _)) (by
    have h1:=G.body.sz;have h2:=a1.sz;simp only[rq,sq,tV,List.sum_nil];omega)
   refine W.mono ?_ AE;simp only[sB];omega
def Np(T:List Clm)(hn:T.length<=3)(hc:∀c∈T,CP c)(J:∀(k:Nat)(c:Clm),T[k]?=some c->∀r∈c.refs,0<=r/\r <(k:Int)):∀f∈Ax T,f.ok/\A6 f=0/\f.nodes.all (Hi 6)=true:=by
 intro f Z;obtain⟨k,U⟩:=tK.1 Z;have N:k <T.length:=by rw[<-CW T];exact(rZ.1 U).1
 obtain⟨c,G⟩:∃c,T[k]?=some c:=⟨_,rW N⟩;have W:=QG T hc J k c G;have h2:(Ax T)[k]?=some (B9 (Ax (T.take k)) c):=by
  have O:(Ax (T.take (k+1)))[k]?=some (B9 (Ax (T.take k)) c):=by
   rw[Fo T G];have:(Ax (T.take k)).length=k:=by rw[CW,sJ];omega
   rw[sO AE,this,uD];rfl
  rw[Cn T (k+1) AE,sP,CF]at O;exact O
 rw[U]at h2;simp only[rV]at h2;subst h2;have hs:sB k<=sB 2:=Pq AE;have e2:sB 2=55:=Ah;exact W.ok AE AE
def Gp(l:List Clm):(CG l).length=l.length:=by
 have:∀(l:List Clm)(acc:List (List F)),(l.foldl (λacc c=>acc++[Ff acc c]) acc).length=acc.length+l.length:=by
  intro l;induction l with
  |nil=>simp
  |cons c l ih=>intro acc;rw[uG,ih];simp;omega
 have h:=this l [];rw[t6,tI]at h;exact h
variable {k:Nat}
def OL(l:List Clm){c:Clm}(h:l[k]?=some c):CG (l.take (k+1))=CG (l.take k)++[Ff (CG (l.take k)) c]:=by rw[rx,h];unfold CG;rw[tq];rfl
def KE(l:List Clm):∀k,k<=l.length->CG (l.take k)=(CG l).take k:=by
 have:∀(l m:List Clm),(CG (l++m)).take l.length=CG l:=by
  intro l m;unfold CG;rw[tq];have:∀(m:List Clm)(acc:List (List F)),∃t,m.foldl (λacc c=>acc++[Ff acc c]) acc=acc++t:=by
   intro m;induction m with
   |nil=>intro acc;exact⟨[],Ac⟩
   |cons c m ih=>
    intro acc;obtain⟨t,G⟩:=ih (acc++[Ff acc c]);exact⟨[Ff acc c]++t,by rw[uG,G];simp⟩
  obtain⟨t,G⟩:=this m (l.foldl (λacc c=>acc++[Ff acc c]) []);rw[G];have:=Gp l;unfold CG at this;rw[tg AE,sN AE]
 intro k J;have h:=this (l.take k) (l.drop k);rw[sa]at h;rw[<-h,sJ,tY J]
def KG(l:List Clm){c:Clm}(h:l[k]?=some c)(n:Nat)(O:k <n)(N:n<=l.length):(CG (l.take n))[k]?=some (Ff (CG (l.take k)) c):=by
 have J:k <l.length:=(rZ.1 h).1;have G:(CG (l.take (k+1)))[k]?=some (Ff (CG (l.take k)) c):=by
  rw[OL l h];have:(CG (l.take k)).length=k:=by rw[Gp,sJ];omega
  rw[sO AE,this,uD];rfl
 rw[KE l (k+1) AE,sP,CF]at G;rw[KE l n N,sP,if_pos O];exact G
structure AP (s:Nat) (f:F):Prop where
 parts:∀p∈BU f,FP s 2 p
 sum:((BU f).map F.size).sum<=s
 all:FP (s+1) 3 f
def AP.mono{s s':Nat}{f:F}(h:AP s f)(G:s<=s'):AP s' f:=⟨λp J=>(h.parts p J).mono G (ri _),sS h.sum G,h.all.mono AE (ri _)⟩
theorem AP.piece{f:F}(h:FP 3 2 f):AP 3 f:=by
 have J:FP 4 3 f:=h.mono Ah Ah;obtain⟨op,n,ins,kids⟩:=f;have U:=h.sz;have O:=h.dp;rw[F.size_eq]at U;by_cases W:op=4
 .have N:BU (.mk op n ins kids)=kids:=by simp[BU,F.op,F.kids,W]
  refine⟨λp G=>?_,?_,J⟩
  .rw[N]at G;have Z:=F.kid_size G;refine⟨λg hg=>h.nd g ?_,AE,?_⟩
   .rw[F.nodes_eq];exact th _ (sj.2 ⟨p,G,hg⟩)
   .have:∀(l:List F),p∈l->p.depth<=F.depths l:=by
     intro l;induction l with
     |nil=>intro h;cases h
     |cons x l ih=>
      intro h;simp only[F.depths];rcases rj.1 h with rfl|h
      .omega
      .have:=ih h;omega
    have:=this kids G;simp only[F.depth]at O;omega
  .rw[N];omega
 .have N:BU (.mk op n ins kids)=[.mk op n ins kids]:=by simp[BU,F.op,W]
  refine⟨λp G=>?_,?_,J⟩
  .rw[N]at G;rw[rm.1 G];exact h
  .rw[N];simp only[rq,sq,tV,List.sum_nil,F.size_eq];omega
def AP.mkA{s s':Nat}{a b:F}(O:AP s a)(U:AP s' b):AP (s+s') (mkA a b):=by
 have W:BU (Go.Va.mkA a b)=BU a++BU b:=by simp[Go.Va.mkA,BU,F.op,F.kids]
 have G:∀p∈BU a++BU b,FP (s+s') 2 p:=by
  intro p N;rcases rp.1 N with h|h
  .exact(O.parts p h).mono AE (ri _)
  .exact(U.parts p h).mono AE (ri _)
 have J:((BU a++BU b).map F.size).sum<=s+s':=by rw[r9,List.sum_append];have:=O.sum;have:=U.sum;omega
 refine⟨by rw[W];exact G,by rw[W];exact J,?_⟩;have:=FP.node (op:=4) (.inl rfl) G J;exact this.mono AE AE
def lB:Nat->Nat
 |0=>2
 |k+1=>4*lB k
def Sf{a:Nat}(h:a<=b):lB a<=lB b:=by
 induction h with
 |refl=>exact ri _
 |step _ ih=>simp only[lB];omega
def GE{α β:Type}(f:α->List β)(n:Nat):∀l:List α,(∀x∈l,(f x).length<=n)->(l.flatMap f).length<=n*l.length
 |[],_=>Ac
 |x::l,h=>by have J:=h x Ac;have h2:=GE f n l λy G=>h y (by simp[G]);simp only[r7,re,sF,ux];omega
theorem YB(T:List Clm)(hc:∀c∈T,CP c)(N:∀(k:Nat)(c:Clm),T[k]?=some c->∀r∈c.refs,0<=r/\r <(k:Int)):∀(k:Nat)(c:Clm),T[k]?=some c->
  (Ff (CG (T.take k)) c).length<=lB k/\∀f∈Ff (CG (T.take k)) c,AP (3*(k+1)) f:=by
 intro k;induction k using Nat.strongRecOn with
 |_ k ih=>
  intro c Z;have G:=hc c (rY Z);unfold Ff;by_cases h0:c.refs=[]
  .rw[if_pos h0];refine⟨sS G.nt (Sf (tB k)),λf J=>(AP.piece (G.tops f J)).mono AE⟩
  .rw[if_neg h0];have a7:k <T.length:=(rZ.1 Z).1;have a6:0 <k:=by obtain⟨r,O⟩:=List.exists_mem_of_ne_nil _ h0;have:=N k c Z r O;omega
   obtain⟨j,rfl⟩:∃j,k=j+1:=⟨k-1,AE⟩;have hm:∀r∈c.refs,∃L,((CG (T.take (j+1)))[r.toNat]?).getD []=L/\L.length<=lB j/\∀f∈L,AP (3*(j+1)) f:=by intro r O;have a8:=N _ c Z r O;have W:r.toNat <j+1:=AE;obtain⟨c',U⟩:∃c',T[r.toNat]?=some c':=⟨_,rW AE⟩;obtain⟨h1,a1⟩:=ih r.toNat W c' U;have h2:=KG T U (j+1) W AE;refine⟨_,by rw[h2,sA],sS h1 (Sf AE),λf J=>(a1 f J).mono AE⟩
   constructor
   .have h1:=GE (λr=>((((CG (T.take (j+1)))[r.toNat]?).getD []).flatMap λa=>c.body.tops.map λb=>Go.Va.mkA a b)) (2*lB j) c.refs (λr O=>by obtain⟨L,hL,hl,_⟩:=hm r O;rw[hL];have:=GE (λa=>c.body.tops.map λb=>Go.Va.mkA a b) 2 L (λa _=>by rw[sD];exact G.nt);have h3:2*L.length<=2*lB j:=vJ _ hl;omega)
    have h2:2*lB j*c.refs.length<=2*lB j*2:=vJ _ G.lr;simp only[lB];omega
   .intro f J;obtain⟨r,O,J⟩:=sj.1 J;obtain⟨L,hL,_,a2⟩:=hm r O;rw[hL]at J;obtain⟨a,ha,J⟩:=sj.1 J;obtain⟨b,hb,rfl⟩:=rl.1 J;exact(AP.mkA (a2 a ha) (AP.piece (G.tops b hb))).mono AE
end
structure AltOK (T:List Clm):Prop where
 len:T.length<=32
 body:∀c∈T,c.body.ok/\c.body.tops.length<=64/\c.refs.length<=8
 low:∀(k:Nat)(c:Clm),T[k]?=some c->∀r∈c.refs,0<=r/\r <(k:Int)
 mka:∀(k:Nat)(c:Clm),T[k]?=some c->(∀r∈c.refs,∀a∈((CG (T.take k))[r.toNat]?).getD [],∀b∈c.body.tops,(mkA a b).ok/\A6 (mkA a b)=0)
 pre:∀(k:Nat)(c:Clm),T[k]?=some c->∀j,j<=c.refs.length->((c.refs.take j).flatMap λr=>(((CG (T.take k))[r.toNat]?).getD []).flatMap λa=>c.body.tops.map (mkA a)).length<=64
 one:∀(k:Nat)(c:Clm),T[k]?=some c->∀r∈c.refs,(((CG (T.take k))[r.toNat]?).getD []).length<=64
def Hm(l:List F):V:= .list (l.map F.V)
def rH(T:List Clm)(W:AltOK T)(h:List Row)(hl:Low h)(d1:V)(m:Nat)(hm:m<=T.length)(Q:AExit->St->Prop)(hQ:∀e J,AK e 1= .v d1->AK e 7= .mr h.length->Q (.exit 0) ⟨e,h++EQ ((CG (T.take m)).map Hm)::J⟩):
  AX (.loop (lG 24 0)) Q ⟨[(1,.v d1),(7,.mr h.length),(24,.v (.list ((T.take m).map Clm.V))),(25,(m:D)),(26,((0:Nat):D))],h++[EQ []]⟩:=by
 refine Ag m (λk s=>∃J,Lows J/\s=⟨[(1,.v d1),(7,.mr h.length),(24,.v (.list ((T.take m).map Clm.V))),(25,(m:D)),(26,(k:D))],h++EQ ((CG (T.take k)).map Hm)::J⟩) ⟨[],Lows.nil,by simp[CG]⟩ ?_;rintro k s hk ⟨J,hJ,rfl⟩;simp only[Zw,BG 24 0,AB 24 6];simp;by_cases O:k <m
 .obtain⟨c,hc⟩:∃c,T[k]?=some c:=⟨_,rW AE⟩;have b3:=rY hc;have b6:=W.len;have w1:=Bt k;have a8:=OL T hc;have Z:(CG (T.take k)).length=k:=by rw[Gp,sJ];omega
  have a1:((T.take m).map Clm.V)[k]?=some c.V:=by simp[O,hc]
  obtain⟨b0,b1,b2⟩:=W.body c b3;have U:∀n,Row.low n (.cells [.v (AM .i64 c.refs),c.body.op,c.body.n,(c.body.ins.map Ivl.V:D),(c.body.kids.map F.V:D)])=true:=λn=>rfl;have q:=qc (h++EQ ((CG (T.take k)).map Hm)::(J++[.cells [.v (AM .i64 c.refs),c.body.op,c.body.n,(c.body.ins.map Ivl.V:D),(c.body.kids.map F.V:D)]]))
   (hl.lows (by
    intro row G n;rcases rj.1 G with rfl|G
    .rfl
    .exact(hJ.app U) row G n)) c b0 b1 h.length (CG (T.take k)) (by simp;rfl) (λr hr=>by have:=W.low k c hc r hr;omega) b2 (W.mka k c hc) (W.pre k c hc) (W.one k c hc)
  have N:=QH ((CG (T.take k)).map Hm) (Hm (Ff (CG (T.take k)) c));rw[sD,Z,<-List.map_singleton (f:=Hm),<-r9]at N;have a2:Cr false [0] (k:V) (Eb 0 ((CG (T.take k)).map Hm))=some none:=by rw[H8 false,if_neg Dd]
  have b5:EQ ((CG (T.take k)).map Hm)= .map (Eb 0 ((CG (T.take k)).map Hm)) (List.range k) k:=by unfold EQ;rw[sD,Z]
  rw[a8,<-N];rw[b5]at q ⊢;generalize Ff (CG (T.take k)) c=R at*;generalize Eb 0 ((CG (T.take k)).map Hm)=E at*;have a7:Hm R=(R.map F.V:V):=rfl;rw[a7];obtain⟨refs,body⟩:=c;simp only[Clm.V,AM]at*;simp at a1;rw[CF,AD];simp only[AB 24 7];simp[a1,AQ];simp only[AB 24 8];simp;by_cases a6:refs=[]
  .rw[if_pos a6]at q;refine⟨_,_,q,?_⟩;simp[AB 24 9,AB 24 10,Be,V.eqL,V.eq1,a2,AB 24 11,w1,O];exact hJ.app U
  .rw[if_neg a6]at q;refine⟨_,_,q,?_⟩;simp[AB 24 9,AB 24 10,Be,V.eqL,V.eq1,a2,AB 24 11,w1,O];exact hJ.app U
 .have b4:k=m:=AE;subst b4;rw[Bj,AN];exact hQ _ _ rfl rfl
def pu(T:List Clm)(Z:AltOK T)(W:∀c∈T,c.ok)(hz:CB T=0)(i:Nat)(hi:i <T.length):PX 24 [.list (T.map Clm.V),i] [.list ((CV T i).map F.V),((0:Int):V)]:=by
 refine Dh (args:=[_,_]) (rets:=[_,_]) ?_;refine At (D6 24) rfl (ri _) (by intro row h;cases h) (by simp[D.lt]) ?_;have a1:=Z.len;have q1:=(ph T W AE hz i hi).fsp;have G:=rH T Z [] (by intro row h;cases h) (i:V) (i+1) hi;have w1:=Bt i;have e1:((i:Int)+1).toNat=i+1:=AE;have U:=RW T;obtain⟨f,hf⟩:∃f,(CG T)[i]?=some f:=⟨_,rW (by rw[Gp];exact hi)⟩;have N:(CG (T.take (i+1)))[i]?=some f:=by rw[KE T (i+1) hi,sP,CF];exact hf
 have O:CV T i=f:=by unfold CV;simp[hf]
 have hn:((CG (T.take (i+1))).map Hm).length=i+1:=by rw[sD,Gp,sJ];omega
 have hm:Cr false [0] (i:V) (Eb 0 ((CG (T.take (i+1))).map Hm))=some (some i):=by rw[H8 false,if_pos (by rw[hn];omega)];simp
 have hg:(Eb 0 ((CG (T.take (i+1))).map Hm))[i]?=some ((i:V),.list (f.map F.V)):=by have:=IK ((CG (T.take (i+1))).map Hm) 0 i (Hm f) (by simp[N]);simpa[Hm]using this
 rw[O];unfold EQ at G;generalize (CG (T.take (i+1))).map Hm=es at*;simp only[Zw,As 24,AB 24 0,AZ];simp;simp only[AB 24 1];simp;refine⟨_,_,q1 _,?_⟩;simp[AB 24 2,AD,AB 24 4];simp only[AB 24 5];simp[w1,e1,U,show 0<=(i:Int)+1 by omega,show i+1<=T.length from hi];simp[Eb]at G;refine G _ ?_;intro e J g1 g7;simp[AB 24 12,g1,g7,Be,V.eqL,V.eq1,hm,hg,Da,AB 24 13,AB 24 15,AA,AW 24]
section
def et(k:Int):Hi 6 (DK k)=true:=by have h:=ue (IntKind.i64.wrap (k.tdiv 8)) (b:=6) Ah;simp only[Hi,DK,F.op,F.n,decide_true,sV,tA];exact decide_eq_false (Int.not_le.2 h)
def Oc{f:F}(h:f.op≠1):Hi 6 f=true:=by simp[Hi,h]
structure P3 (f:F):Prop where
 sz:f.size<=3
 dp:f.depth<=2
 cl:∀g∈f.nodes,Hi 6 g=true
 op:f.op≠5
theorem Nh(n:Int):P3 (Dt n):=by
 unfold Dt;generalize Af n 1048576=k;have U:Hi 6 (Di k)=true:=Oc (by simp[Di,F.op]);have G:=et k;have J:(DK k).nodes=[DK k]:=by unfold DK;rw[F.nodes_eq];simp
 have W:(Di k).nodes=[Di k]:=by unfold Di;rw[F.nodes_eq];simp
 have O:(DK k).size=1:=by unfold DK;rw[F.size_eq];simp
 have sC:(Di k).size=1:=by unfold Di;rw[F.size_eq];simp
 have N:(DK k).depth=1:=by simp[DK,F.depth,F.depths]
 have Z:(Di k).depth=1:=by simp[Di,F.depth,F.depths]
 simp only
 repeat' split
 .exact⟨AE,AE,by rw[J];simpa using G,by simp[DK,F.op]⟩
 .exact⟨AE,AE,by rw[W];simpa using U,by simp[Di,F.op]⟩
 .refine⟨by rw[F.size_eq];simp[O,sC],by simp[F.depth,F.depths,N,Z],?_,by simp[F.op]⟩;rw[F.nodes_eq];simp only[r7,uO,J,W];intro g hg;simp at hg;rcases hg with rfl|rfl|rfl
  .exact Oc (by simp[F.op])
  .exact U
  .exact G
 .refine⟨by rw[F.size_eq];simp[O],by simp[F.depth,F.depths,N],?_,by simp[F.op]⟩;rw[F.nodes_eq];simp only[r7,uO,J];intro g hg;simp at hg;rcases hg with rfl|rfl
  .exact Oc (by simp[F.op])
  .exact G
 .refine⟨by rw[F.size_eq];simp[O],by simp[F.depth,F.depths,N],?_,by simp[F.op]⟩;rw[F.nodes_eq];simp only[r7,uO,J];intro g hg;simp at hg;rcases hg with rfl|rfl
  .exact Oc (by simp[F.op])
  .exact G
theorem P3.tops{f:F}(h:P3 f):f.tops=[f]:=by have G:=h.op;obtain⟨o,n,i,k⟩:=f;rw[F.tops_eq,if_neg (show ¬o=5 from G)]
def P3.fp{f:F}(h:P3 f)(J:∀g∈f.nodes,g.ok1)(G:∀g∈f.nodes,BC g=true):FP 3 2 f:=⟨λg hg=>⟨J g hg,G g hg,h.cl g hg⟩,h.sz,h.dp⟩
theorem Qa{f:F}(h:A6 f=0):∀g∈f.nodes,BC g=true:=by
 unfold A6 at h;split at h
 .cases h
 .split at h
  .rename_i G;exact ry.1 G
  .cases h
theorem Ty(l:List Int)(i:Nat)(hi:i<=3)(hz:A6 (HF l i).body=0):CP (HF l i):=by
 have U:=IP l i hi;have J:=Qa hz;have N:=λg hg=>(U.body.one g hg).1;refine⟨U.lr,?_,?_,?_⟩
 all_goals
  revert J N
  unfold HF;generalize Aq l (2*i+1) 1000=k;generalize Aq l (2*i+2) 1048576=m;simp only;have G:=Nh m;have O:=Nh (IntKind.i64.wrap (k.tdiv 4));generalize Dt m=a at*;generalize Dt (IntKind.i64.wrap (k.tdiv 4))=b at*;split
  all_goals intro J N
 .have W:FP 3 2 a:=G.fp (λg hg=>N g (by rw[F.nodes_eq];simp[hg])) (λg hg=>J g (by rw[F.nodes_eq];simp[hg]));have Z:FP 3 2 b:=O.fp (λg hg=>N g (by rw[F.nodes_eq];simp[hg])) (λg hg=>J g (by rw[F.nodes_eq];simp[hg]));exact FP.node (s:=6) (.inr rfl) (kids:=[a,b]) (by
   intro x hx;simp at hx;rcases hx with rfl|rfl
   .exact W
   .exact Z) (by have:=G.sz;have:=O.sz;simp;omega)
 .exact(G.fp N J).mono Ah Ah
 .rw[F.tops_eq,if_pos rfl];simp[G.tops,O.tops]
 .rw[G.tops];simp
 .rw[F.tops_eq,if_pos rfl];simp only[r7,uO,G.tops,O.tops];intro x hx;simp at hx;rcases hx with rfl|rfl
  .exact G.fp (λg hg=>N g (by rw[F.nodes_eq];simp[hg])) (λg hg=>J g (by rw[F.nodes_eq];simp[hg]))
  .exact O.fp (λg hg=>N g (by rw[F.nodes_eq];simp[hg])) (λg hg=>J g (by rw[F.nodes_eq];simp[hg]))
 .rw[G.tops];intro x hx;simp at hx;subst hx;exact G.fp N J
variable {k:Nat}
theorem Mn{T:List Clm}(G:CB T=0){c:Clm}(J:T[k]?=some c):EN c.refs k=true/\A6 c.body=0:=by
 unfold CB at G;split at G
 .cases G
 .have N:=(rZ.1 J).1;have h:=HA _ _ G k AE AE;unfold J7 at h;rw[J]at h;simp only[Mo]at h;split at h
  .cases h
  .split at h
   .rename_i h2;exact⟨h2,h⟩
   .cases h
theorem Px{l:List Int}{i:Int}(h:EN l i=true):∀r∈l,0<=r/\r <i:=by
 have G:∀k <l.length,DY l k <l.getD k 0/\l.getD k 0 <i:=by intro k J;unfold EN at h;simp only[tA,tD,sM]at h;have:=h k J;simp only[C6,decide_eq_true_eq,not_or,Int.not_le]at this;exact this
 have N:∀k <l.length,0<=l.getD k 0:=by
  intro k;induction k with
  |zero=>intro J;have:=(G 0 J).1;simp only[DY]at this;omega
  |succ k ih=>intro J;have O:=(G (k+1) J).1;have h2:=ih AE;simp only[DY]at O;omega
 intro r U;obtain⟨k,J,rfl⟩:=List.getElem_of_mem U;have O:=N k J;have h2:=(G k J).2;have e:l.getD k 0=l[k]:=by simp[List.getD,J]
 rw[e]at O h2;exact⟨O,h2⟩
structure CsP (T:List Clm):Prop where
 n:T.length<=3
 cp:∀c∈T,CP c
 low:∀(k:Nat)(c:Clm),T[k]?=some c->∀r∈c.refs,0<=r/\r <(k:Int)
 z:CB T=0
 tiny:∀c∈T,c.tiny
theorem Qn(l:List Int)(O:CB (CR l)=0):CsP (CR l):=by
 have W:=Jg l;have N:(CR l).length=Iy l:=by unfold CR;simp
 have J:∀(k:Nat)(c:Clm),(CR l)[k]?=some c->k <Iy l/\c=HF l k:=by intro k c h;have G:=(rZ.1 h).1;rw[N]at G;unfold CR at h;rw[rk,tT G]at h;simp only[sT,rV]at h;exact⟨G,h.symm⟩
 refine⟨AE,?_,λk c h=>Px (Mn O h).1,O,?_⟩
 .intro c hc;obtain⟨k,G⟩:=tK.1 hc;obtain⟨U,rfl⟩:=J k c G;exact Ty l k AE (Mn O G).2
 .intro c hc;obtain⟨k,G⟩:=tK.1 hc;obtain⟨U,rfl⟩:=J k c G;exact IP l k AE
def CsP.mean{T:List Clm}(h:CsP T):MeanOK T where
 len:=by have:=h.n;omega
 ok:=λc hc=>(h.tiny c hc).ok
 refs:=λc hc=>by have:=(h.cp c hc).lr;omega
 low:=h.low
 mean:=λf G=>by have:=Np T h.n h.cp h.low f G;exact⟨this.1,this.2.1⟩
def CsP.fine{r:Rgt}(h:CsP r.claims)(G:r.bad.length<=2^40):r.fine 6:=⟨G,h.mean,h.z,λf J=>(Np r.claims h.n h.cp h.low f J).2.2⟩
end
open Go.Proofs
def Vi(p:Int)(Z:p <5)(i j:Nat)(G:i <j)(N:j <p.toNat):IH ((i+p).tmod 5)≠IH ((j+p).tmod 5):=by
 obtain⟨q,rfl⟩:∃q:Nat,p=q:=⟨p.toNat,AE⟩;have O:q <5:=AE;have J:j <q:=by simpa using N
 have:∀q:Nat,q <5->∀j:Nat,j <q->∀i:Nat,i <j->IH (((i:Int)+(q:Int)).tmod 5)≠IH (((j:Int)+(q:Int)).tmod 5):=by intro q O j N i hi;have U:q=0\/q=1\/q=2\/q=3\/q=4:=AE;have h2:j=0\/j=1\/j=2\/j=3:=AE;have W:i=0\/i=1\/i=2:=AE;rcases U with rfl|rfl|rfl|rfl|rfl<;>rcases h2 with rfl|rfl|rfl|rfl<;>rcases W with rfl|rfl|rfl<;>first|omega|decide
 exact this q O j J i G
def DT(l:List Int):(Ae l).Pairwise λa b=>a.file≠b.file:=by unfold Ae;refine List.Pairwise.filter _ ?_;rw[List.pairwise_map];have J:=Ez l 0 5 Ah;refine List.Pairwise.imp_of_mem ?_ (uW (n:=(Aq l 0 5).toNat));intro i j hi N G;have h2:=sM.1 N;exact Vi (Aq l 0 5) J.2 i j G h2
def D7{l:List Int}{r:Rgt}(h:r∈Ae l):∃i,r=DJ l i/\Ao r=true:=by unfold Ae at h;obtain⟨G,h2⟩:=sx.1 h;obtain⟨i,_,rfl⟩:=rl.1 G;exact⟨i,rfl,h2⟩
def LE{r:Rgt}(h:Ao r=true):CB r.claims=0:=by unfold Ao at h;simp only[rX,beq_iff_eq]at h;exact h.1.1.1.1.1.1.2
def Ej{l:List Int}{r:Rgt}(h:r∈Ae l):CsP r.claims:=by obtain⟨i,rfl,J⟩:=D7 h;have G:=LE J;have e:∃m,(DJ l i).claims=CR m:=⟨_,rfl⟩;obtain⟨m,N⟩:=e;rw[N]at G ⊢;exact Qn m G
def IG(rs:List Rgt)(f:Int):Rgt:=(rs.find? λq=>q.file==f).getD ⟨0,0,0,[],[],[],[],[]⟩
def ia:AC:=(.seq (.seq (.reg (oG 90 21) [0,3,12,14,15,16,60,61,62,74]) (.cond (.t 74 false) (.seq (.reg (oG 90 22) [4,5,6]) .ret) .skip)) (.seq (.reg (oG 90 23) [0,3,12,14,60,61,62,76]) (.cond (.t 76 false) (.reg (oG 90 24) [0,3,12,60,61,62]) .skip)))
def V4:(lG 90 1)=(.seq (.reg (oG 90 18) [0,3,12,60,61,62,63]) (.seq (.cond (.t 63 false) .skip (.exit 3)) (.seq (.block 4 (.seq (.reg (oG 90 19) [0,3,12,14,60,61,62]) (.seq (.reg (oG 90 20) [0,3,12,14,15,16,60,61,62]) ia))) (.reg (oG 90 25) [0,3,12,60,61,62])))):=(BG 90 1 :)
def ly(h:List Row)(m:Nat):FX 238 [.mr m] h [.func 300 [.R h.length 0]] (h++[.cells [.mr m]]):=by refine EH 238 ?_;simp[As 238,awp,AB 238 0,AB 238 1,AW 238,AZ,D.vs?,D.v?]
def Zp(a b:Int)(h:List Row):FX 239 [a,b] h [.func 301 [.R h.length 0,.R (h.length+1) 0]] (h++[.cells [a],.cells [b]]):=by refine EH 239 ?_;simp[As 239,awp,AB 239 0,AB 239 1,AW 239,AZ,D.vs?,D.v?]
def M3(K:KM)(k:Int):List Int:=((K.E.find? λx=>x.1==k).map (·.2)).getD []
def Iw(K:KM)(k:Int):V:= .agg [.int .i64 k,AM .u8 (M3 K k)]
def fB(K:KM)(k:Int)(O:k∈K.E.map (·.1)):∃i,Cr false [0] (k:V) (K.E.map IL)=some (some i)/\(K.E.map IL)[i]?=some ((k:V),AM .u8 (M3 K k)):=by
 have N:=Mg (λx:Int×List Int=>x.1==k) K.E;obtain⟨x,hx,rfl⟩:=rl.1 O;rcases N with ⟨G,h2⟩|⟨i,y,G,h2,J⟩
 .rw[tb]at h2;exact absurd (h2 x hx) Ac
 .refine⟨i,by rw[Lm,G],?_⟩;have U:y.1=x.1:=by have:=List.find?_some J;simpa using this
  rw[rk,h2];simp[IL,M3,J,U]
open Go.Proofs
def qV(a b:List (Int×Int))(hl:a.length<=2^40):PX 91 [(a.map BY:V),(b.map BY:V)] [(decide (a=b):V)]:=by
 refine BS 91 ?_;simp only[Zw,As 91,AB 91 0,AB 91 1,Ad];simp;by_cases N:a.length=b.length
 .simp[N,AD,AB 91 3];refine Ag b.length (λk s=>s=⟨[(0,(a.map BY:D)),(1,(b.map BY:D)),(12,(b.length:D)),(13,(k:D))],[]⟩/\∀j <k,a[j]?=b[j]?) ⟨Ac,AE⟩ ?_;rintro k s hk ⟨rfl,hI⟩;simp only[Zw,BG 91 0,AB 91 4];simp;by_cases U:k <b.length
  .obtain⟨x,hx⟩:∃x,a[k]?=some x:=⟨_,rW AE⟩;obtain⟨y,J⟩:∃y,b[k]?=some y:=⟨_,rW U⟩;have w1:=Bt k;obtain⟨x1,x2⟩:=x;obtain⟨y1,y2⟩:=y;rw[CF,AD];simp only[AB 91 5];simp;simp only[Aa,AB 91 6];simp[hx,J,BY,V.eqL,V.eq1];by_cases W:x1=y1
   .by_cases e2:x2=y2
    .subst W;subst e2;simp[AD,AB 91 8,w1,U];intro j hj;by_cases Z:j <k
     .exact hI j Z
     .have:j=k:=AE;subst this;rw[hx,J]
    .have G:a≠b:=by intro h;subst h;rw[hx]at J;simp at J;exact e2 J.2
     simp[W,e2,G,AB 91 7,AA,AW 91]
   .have G:a≠b:=by intro h;subst h;rw[hx]at J;simp at J;exact W J.1
    simp[W,G,AB 91 7,AA,AW 91]
  .have a1:k=b.length:=AE;subst a1;have he:a=b:=by
    apply sl;intro j;by_cases hj:j <b.length
    .exact hI j hj
    .rw[sU AE,sU AE]
   rw[Bj,AN];simp[AB 91 9,AA,AW 91,he]
 .have G:a≠b:=λh=>N (by rw[h]);have O:¬(a.length:Int)=b.length:=AE;simp[O,G,AB 91 2,AA,AW 91]
def qU(a b:List Int)(hl:a.length<=2^40):PX 92 [AM .i64 a,AM .i64 b] [(decide (a=b):V)]:=by
 refine BS 92 ?_;simp only[Zw,As 92,AB 92 0,AB 92 1,Ad,AM];simp;by_cases J:a.length=b.length
 .simp[J,AD,AB 92 3];refine Ag b.length (λk s=>s=⟨[(0,.v (.list (a.map (.int .i64)))),(1,.v (.list (b.map (.int .i64)))),(12,(b.length:D)),(13,(k:D))],[]⟩/\∀j <k,a[j]?=b[j]?) ⟨Ac,AE⟩ ?_;rintro k s hk ⟨rfl,hI⟩;simp only[Zw,BG 92 0,AB 92 4];simp;by_cases O:k <b.length
  .obtain⟨x,hx⟩:∃x,a[k]?=some x:=⟨_,rW AE⟩;obtain⟨y,U⟩:∃y,b[k]?=some y:=⟨_,rW O⟩;have w1:=Bt k;rw[CF,AD];simp only[AB 92 5];simp;simp only[Aa,AB 92 6];simp[hx,U];by_cases W:x=y
   .subst W;simp[AD,AB 92 8,w1,O];intro j hj;by_cases Z:j <k
    .exact hI j Z
    .have:j=k:=AE;subst this;rw[hx,U]
   .have G:a≠b:=by intro h;subst h;rw[hx]at U;simp at U;exact W U
    simp[W,G,AB 92 7,AA,AW 92]
  .have a1:k=b.length:=AE;subst a1;have he:a=b:=by
    apply sl;intro j;by_cases hj:j <b.length
    .exact hI j hj
    .rw[sU AE,sU AE]
   rw[Bj,AN];simp[AB 92 9,AA,AW 92,he]
 .have G:a≠b:=λh=>J (by rw[h]);have N:¬(a.length:Int)=b.length:=AE;simp[N,G,AB 92 2,AA,AW 92]
def mr(o:Own)(U:Int)(h:List Row)(q:Nat)(ds:List D)(hq:h[q]?=some (.cells ds))(hd:ds[2]?=some (U:D))(W:Low h):FX 184 [.v o.V,.R q 0] h [.v (.bool (o.party==U))] h:=by refine At (D6 184) rfl (ri _) W (by simp[D.lt]) ?_;have O:=λZ=>AU Z hq;have G:2 <ds.length:=(rZ.1 hd).1;have J:3<=ds.length:=G;have N:ds[2]'G=(U:D):=(rZ.1 hd).2;simp[As 184,awp,AB 184 0,AB 184 1,AW 184,AZ,Own.V,O,N,G,J]
def Cl(pa:Int)(rs:List Rgt):List Int:=(rs.filter λr=>r.owners.any λo=>o.party==pa).map Rgt.file
section
def Kx(n p:Int):(n+1)*p=n*p+p:=by rw[uS,uh]
def BA(a b:Int):Nat->Int->List (Nat×Int)
 |0,n=>if (n+1)*2^0<=a\/b <n*2^0 then [(0,n)] else []
 |l+1,n=>if (n+1)*2^(l+1)<=a\/b <n*2^(l+1) then [(l+1,n)] else if a<=n*2^(l+1)/\(n+1)*2^(l+1)-1<=b then [] else BA a b l (2*n)++BA a b l (2*n+1)
theorem Dx{a b:Int}:∀{l:Nat}{n:Int}{x:Nat×Int},0<=n->x∈BA a b l n->x.1<=l/\0<=x.2/\(x.2+1)*2^x.1<=(n+1)*2^l/\((x.2+1)*2^x.1<=a\/b <x.2*2^x.1)
 |0,n,x,h0,h=>by
  simp only[BA]at h;split at h
  .rename_i hc;rw[rm.1 h];exact⟨ri _,h0,Int.le_refl _,hc⟩
  .cases h
 |l+1,n,x,h0,h=>by
  have e0:(2:Int)^(l+1)=2*2^l:=by rw[sb,sX]
  have W:(1:Int)<=2^l:=sR Ah;simp only[BA]at h;split at h
  .rename_i hc;rw[rm.1 h];exact⟨ri _,h0,Int.le_refl _,hc⟩
  .split at h
   .cases h
   .have U:(n+1)*2^(l+1)=(2*n+1)*2^l+2^l:=by rw[e0,<-si,<-Kx];congr 1;omega
    rcases rp.1 h with h|h
    .obtain⟨N,G,O,J⟩:=Dx AE h;exact⟨AE,G,AE,J⟩
    .obtain⟨N,G,O,J⟩:=Dx AE h;have e2:(2*n+1+1)*(2:Int)^l=(2*n+1)*2^l+2^l:=Kx _ _;exact⟨AE,G,AE,J⟩
def U9(l:Nat):BA 0 4095 12 0=[]:=Ah
def P7(l:Nat)(n:Int)(hl:l<=12)(W:0<=n)(Z:(n+1)*2^l<=4096):PX 240 [BV l n] [(((n+1)*2^l-1:Int):V)]:=by
 refine BS 240 ?_;have J:(1:Int)<=2^l:=sR Ah;have hm:n+1<=(n+1)*2^l:=by have:=Int.mul_le_mul_of_nonneg_left J (show 0<=n+1 by omega);omega
 have N:IntKind.i64.wrap (n+1)=n+1:=AS AE AE;have O:IntKind.i64.wrap ((n+1)*2^l)=(n+1)*2^l:=AS AE AE;have U:IntKind.i64.wrap ((n+1)*2^l-1)=(n+1)*2^l-1:=AS AE AE;have G:min l IntKind.i64.bits=l:=tY (by simp[IntKind.bits];omega);simp only[As 240,AH,AJ,AB 240 0,AB 240 1,Ad,BV];simp[N,G,O,U];simp[AA,AW 240]
def Oa(l:Nat)(n:Int)(W:l<=12)(G:0<=n)(O:(n+1)*2^l<=4096):PX 271 [BV l n] [((n*2^l:Int):V)]:=by refine BS 271 ?_;have Z:(1:Int)<=2^l:=sR Ah;have e2:(n+1)*(2:Int)^l=n*2^l+2^l:=Kx _ _;have U:0<=n*(2:Int)^l:=uE G AE;have N:IntKind.i64.wrap (n*2^l)=n*2^l:=AS AE AE;have J:min l IntKind.i64.bits=l:=tY (by simp[IntKind.bits];omega);simp only[As 271,AH,AJ,AB 271 0,AB 271 1,Ad,BV];simp[J,N];simp[AA,AW 271]
variable {r:Nat}
section
variable {lv n f la a b:Int} {H:List Row} {x y z u:Nat} (q1:PX 240 [BV lv n] [.int .i64 la]) (q2:PX 271 [BV lv n] [.int .i64 f])
 (hx:H[x]?=some (.cells [.v (.int .i64 a)])) (hy:H[y]?=some (.cells [.v (.int .i64 b)]))
include q1 q2 hx hy
theorem nf(hz:H[z]?=some (.cells [.yld r]))(h:la <a\/b <f){U:List Row}(N:Ky Tryz.prog BK r [.v (BV lv n)] (H++[.cells [lv,n]]) true U):
  FX 302 [.v (BV lv n),.R x 0,.R y 0,.R z 0,.R u 0] H [(true:D)] U:=by
 refine EH 302 ?_;have G:=AU [.cells [lv,n]] hx;have O:=AU [.cells [lv,n]] hy;have J:=AU [.cells [lv,n]] hz;simp[BV]at q1 q2 N;simp only[As 302,AH,AJ,Aa,AO,AB 302 0,AB 302 1,AZ,BV];simp[-Bool.exists_bool];refine⟨_,_,⟨rfl,rfl⟩,_,q1,?_⟩;by_cases W:la <a
 .simp[G,W,-Bool.exists_bool];simp[AB 302 2,J,-Bool.exists_bool];exact⟨_,_,N,by simp[AA,AW 302]⟩
 .have Z:b <f:=AE;simp[G,W,-Bool.exists_bool];refine⟨_,_,⟨rfl,rfl⟩,_,q2,?_⟩;simp[O,Z,-Bool.exists_bool];simp[AB 302 2,J,-Bool.exists_bool];exact⟨_,_,N,by simp[AA,AW 302]⟩
theorem ge(N:¬la <a)(h2:¬b <f)(O:a<=f)(U:la<=b):
  FX 302 [.v (BV lv n),.R x 0,.R y 0,.R z 0,.R u 0] H [(true:D)] (H++[.cells [lv,n]]):=by
 refine EH 302 ?_;have G:=AU [.cells [lv,n]] hx;have J:=AU [.cells [lv,n]] hy;simp[BV]at q1 q2;simp only[As 302,AH,AJ,Aa,AO,AB 302 0,AB 302 1,AZ,BV];simp;refine⟨_,_,⟨rfl,rfl⟩,_,q1,?_⟩;simp[G,N];refine⟨_,_,⟨rfl,rfl⟩,_,q2,?_⟩;simp[J,h2,AD,AB 302 3]
 try simp only[Aa]
 try simp
 refine⟨_,_,⟨rfl,rfl⟩,_,q2,?_⟩;simp[G,O];refine⟨_,_,⟨rfl,rfl⟩,_,q1,?_⟩;simp[J,U,AB 302 4,AA,AW 302]
theorem jW{G n0 n1:Int}(hu:H[u]?=some (.cells [.func 302 [.R x 0,.R y 0,.R z 0,.R u 0]]))(h1:¬la <a)(h2:¬b <f)(h3:¬(a<=f/\la<=b))(W:PX 181 [BV lv n] [BV G n0,BV G n1]){H1 H2:List Row}(g1:FX 302 [.v (BV G n0),.R x 0,.R y 0,.R z 0,.R u 0] (H++[.cells [lv,n],.cells [G,n0],.cells [G,n1]]) [(true:D)] H1)(N:H1[u]?=some (.cells [.func 302 [.R x 0,.R y 0,.R z 0,.R u 0]]))(h8:H1[H.length+2]?=some (.cells [G,n1]))(g2:FX 302 [.v (BV G n1),.R x 0,.R y 0,.R z 0,.R u 0] H1 [(true:D)] H2):
  FX 302 [.v (BV lv n),.R x 0,.R y 0,.R z 0,.R u 0] H [(true:D)] H2:=by
 refine EH 302 ?_;have O:=AU [.cells [lv,n]] hx;have U:=AU [.cells [lv,n]] hy;have J:=λZ=>AU Z hu;have W:=W.fsp;simp[BV]at q1 q2 W g1 g2;simp only[As 302,AH,AJ,Aa,AO,AB 302 0,AB 302 1,AZ,BV];simp;refine⟨_,_,⟨rfl,rfl⟩,_,q1,?_⟩;simp[O,h1];refine⟨_,_,⟨rfl,rfl⟩,_,q2,?_⟩;simp[U,h2,AD,AB 302 3]
 try simp only[Aa]
 try simp
 refine⟨_,_,⟨rfl,rfl⟩,_,q2,?_⟩;simp[O];by_cases c3:a<=f
 .have c4:¬la<=b:=λh=>h3 ⟨c3,h⟩;simp[c3];refine⟨_,_,⟨rfl,rfl⟩,_,q1,?_⟩;simp[U,c4,AB 302 5];refine⟨_,_,W _,?_⟩;simp[AQ,AB 302 6,J];refine⟨_,_,g1,?_⟩;simp[N,h8];refine⟨_,_,g2,?_⟩;simp[AA,AW 302]
 .have c5:f <a:=AE;simp[c3,c5,AB 302 5];refine⟨_,_,W _,?_⟩;simp[AQ,AB 302 6,J];refine⟨_,_,g1,?_⟩;simp[N,h8];refine⟨_,_,g2,?_⟩;simp[AA,AW 302]
end
theorem dU(a b:Int)(a2:a<=b)(S:Nat->List Row)(L x y r z u:Nat)(hL:∀k,(S k).length=L)(hx:∀k,(S k)[x]?=some (.cells [a]))(hy:∀k,(S k)[y]?=some (.cells [b])):
  ∀(l:Nat)(n:Int)(k:Nat)(J:List Row)(i j:Nat),l<=12->0<=n->(n+1)*2^l<=4096->
   (∀t q,(BA a b l n)[t]?=some q->∀J,∃Z,Ky Tryz.prog BK r [.v (BV q.1 q.2)] (S (k+t)++J) true (S (k+t+1)++(J++Z)))->
   z=L+i->u=L+j->J[i]?=some (.cells [.yld r])->J[j]?=some (.cells [.func 302 [.R x 0,.R y 0,.R z 0,.R u 0]])->
   ∃J',FX 302 [.v (BV l n),.R x 0,.R y 0,.R z 0,.R u 0] (S k++J) [.v (.bool true)] (S (k+(BA a b l n).length)++(J++J')):=by
 have get:∀(k i z:Nat)(J:List Row),z=L+i->(S k++J)[z]?=J[i]?:=λk i z J h=>BQ (S k) J z i (by rw[hL];exact h);intro l n k J i j O G N U hz hu hi hj;have W:∀(l:Nat)(n:Int)(k:Nat)(J:List Row),l<=12->0<=n->(n+1)*2^l<=4096->(∃Z,Ky Tryz.prog BK r [.v (BV l n)] (S k++(J++[.cells [l,n]])) true (S (k+1)++(J++[.cells [l,n]]++Z)))->
   J[i]?=some (.cells [.yld r])->(n+1)*2^l<=a\/b <n*2^l->
   ∃J',FX 302 [.v (BV l n),.R x 0,.R y 0,.R z 0,.R u 0] (S k++J) [.v (.bool true)] (S (k+1)++(J++J')):=by
  rintro l n k J O G N ⟨Z,a1⟩ hi hc;refine⟨[.cells [l,n]]++Z,nf (P7 l n O G N) (Oa l n O G N) (AU _ (hx k)) (AU _ (hy k)) (by rw[get k i z J hz];exact hi) AE ?_⟩;rw[rn,<-rn J];exact a1
 induction l generalizing n k J with
 |zero=>
  simp only[BA]at U ⊢;split at U
  .rename_i hc;rw[if_pos hc];exact W 0 n k J O G N (U 0 _ rfl _) hi hc
  .rename_i hc;rw[if_neg hc];refine⟨[.cells [((0:Nat):D),n]],?_⟩
   .have:=ge (z:=z) (u:=u) (P7 0 n O G N) (Oa 0 n O G N) (AU J (hx k)) (AU J (hy k)) (by simp at hc ⊢;omega) (by simp at hc ⊢;omega) (by simp at hc ⊢;omega) (by simp at hc ⊢;omega);rw[rn]at this;exact this
 |succ l ih=>
  have e0:(2:Int)^(l+1)=2*2^l:=by rw[sb,sX]
  have hp:(1:Int)<=2^l:=sR Ah;have e1:(n+1)*2^(l+1)=(2*n+1)*2^l+2^l:=by rw[e0,<-si,<-Kx];congr 1;omega
  have e2:(2*n+1+1)*(2:Int)^l=(2*n+1)*2^l+2^l:=Kx _ _;by_cases hc:(n+1)*2^(l+1)<=a\/b <n*2^(l+1)
  .simp only[BA,if_pos hc]at U ⊢;exact W (l+1) n k J O G N (U 0 _ rfl _) hi hc
  .by_cases hd:a<=n*2^(l+1)/\(n+1)*2^(l+1)-1<=b
   .simp only[BA,if_neg hc,if_pos hd]at U ⊢;refine⟨[.cells [((l+1:Nat):D),n]],?_⟩
    .have:=ge (z:=z) (u:=u) (P7 (l+1) n O G N) (Oa (l+1) n O G N) (AU J (hx k)) (AU J (hy k)) AE AE AE AE;rw[rn]at this;exact this
   .simp only[BA,if_neg hc,if_neg hd]at U ⊢;have q3:=W7 (l+1:Nat) n AE (by have h5:=Int.mul_le_mul_of_nonneg_left hp (show 0<=2*n+1 by omega);rw[Int.mul_one]at h5;omega);have el:((l+1:Nat):Int)-1=l:=AE;rw[el]at q3;obtain⟨J1,g1⟩:=ih (2*n) k (J++[.cells [((l+1:Nat):D),n],.cells [l,((2*n:Int):D)],.cells [l,((2*n+1:Int):D)]]) AE AE AE
     (λt q ht J=>U t q (by rw[sI (rZ.1 ht).1];exact ht) J) (AU _ hi) (AU _ hj)
    obtain⟨J3,g2⟩:=ih (2*n+1) (k+(BA a b l (2*n)).length) (J++[.cells [((l+1:Nat):D),n],.cells [l,((2*n:Int):D)],.cells [l,((2*n+1:Int):D)]]++J1) AE AE AE
     (λt q ht J=>by have:=U ((BA a b l (2*n)).length+t) q (by rw[sO AE];simpa using ht) J;simpa[Nat.add_assoc]using this) (AU _ (AU _ hi)) (AU _ (AU _ hj))
    rw[re,<-Nat.add_assoc];rw[<-rn (S k)]at g1;refine⟨[.cells [((l+1:Nat):D),n],.cells [l,((2*n:Int):D)],.cells [l,((2*n+1:Int):D)]]++J1++J3,jW (P7 (l+1) n O G N) (Oa (l+1) n O G N) (AU _ (hx k)) (AU _ (hy k)) (by rw[get k j u J hu];exact hj) AE AE AE q3 g1 (by rw[get _ j u _ hu];exact AU _ (AU _ hj)) ?_ ?_⟩
    .rw[re,hL,get _ (J.length+2) _ _ AE];refine AU _ ?_;rw[sO AE];simp
    .simpa[rn]using g2
def dX(a b:Int)(O:a<=b)(S:Nat->List Row)(L x y r:Nat)(U:∀k,(S k).length=L)(hx:∀k,(S k)[x]?=some (.cells [a]))(hy:∀k,(S k)[y]?=some (.cells [b]))(hY:∀t q,(BA a b 12 0)[t]?=some q->∀J,∃W,Ky Tryz.prog BK r [.v (BV q.1 q.2)] (S t++J) true (S (t+1)++(J++W))):
  ∃G,FX 301 [.yld r,.R x 0,.R y 0] (S 0) [] (S (BA a b 12 0).length++G):=by
 obtain⟨G,q⟩:=dU a b O S L x y r L (L+1) U hx hy 12 0 0 [.cells [.yld r],.cells [.func 302 [.R x 0,.R y 0,.R L 0,.R (L+1) 0]]] 0 1 AE AE Ah (by simpa using hY) rfl rfl rfl rfl;refine⟨[.cells [.yld r],.cells [.func 302 [.R x 0,.R y 0,.R L 0,.R (L+1) 0]]]++G,EH 301 ?_⟩;simp[BV]at q;generalize (BA a b 12 0).length=N at*;have Z:=U 0;generalize S 0=S0 at*;subst Z;simp only[As 301,AH,AJ,AB 301 0,AB 301 1,AB 301 2,AB 301 3,AZ];simp[AQ,D.vs?,D.v?];refine⟨⟨_,q⟩,?_⟩
 try simp[AW 301]
end
def ER(lf:Int->Option Int)(a:Int)(B:List (Nat×Int)):List Int:=B.filterMap λq=>if (q.2+1)*2^q.1<=a then bH lf q.1 q.2 else none
def EM(lf:Int->Option Int)(a:Int)(B:List (Nat×Int)):List Int:=B.filterMap λq=>if (q.2+1)*2^q.1<=a then none else bH lf q.1 q.2
def DH(lf:Int->Option Int)(B:List (Nat×Int)):List Int:=B.map λq=>if (bH lf q.1 q.2).isSome then 1 else 0
def cu(lf:Int->Option Int)(a b:Int):V:= .agg [AM .u64 (ER lf a (BA a b 12 0)),AM .u64 (EM lf a (BA a b 12 0)),AM .u8 (DH lf (BA a b 12 0))]
def OX(lf:Int->Option Int)(a:Int)(B:List (Nat×Int)):Row:= .cells [.W 47 1 ((ER lf a B).map (.int .u64)),.W 47 1 ((EM lf a B).map (.int .u64)),.W 5 1 ((DH lf B).map (.int .u8))]
def E6(a b:Int):∀(l:Nat)(n:Int),(BA a b l n).length<=2^l
 |0,n=>by simp only[BA];split<;>simp
 |l+1,n=>by
  have G:=E6 a b l (2*n);have h2:=E6 a b l (2*n+1);have J:0 <2^l:=Nat.pow_pos Ah;simp only[BA];split
  .simp[Nat.pow_succ];omega
  .split
   .simp
   .rw[re,Nat.pow_succ];omega
def HM.lookH(m:HM)(a b:Int):(m.get (a,b)=none/\Cr true [0,0] (.agg [.int .i64 a,.int .i64 b]) (m.E.map JG)=some none)\/
  ∃i v,m.get (a,b)=some v/\Cr true [0,0] (.agg [.int .i64 a,.int .i64 b]) (m.E.map JG)=some (some i)/\(m.E.map JG)[i]?=some (.agg [.int .i64 a,.int .i64 b],.int .u64 v):=by
 have G:=Gf (a,b) m.E;rw[Je];cases hi:m.E.findIdx? (λx=>x.fst==(a,b))with
 |none=>
  rw[hi]at G;exact .inl ⟨G,rfl⟩
 |some i=>
  rw[hi]at G;obtain⟨J,hx,_⟩:=tQ.1 hi;rw[sW,rW J]at G;refine .inr ⟨i,_,G,rfl,?_⟩;rw[rk,rW J];have:(m.E[i]).1=(a,b):=by simpa using hx
  simp[JG,this]
section
variable (h:List Row) (t:Nat) (a0 b0:Int) (R7 R3:Row) (e0:CC)
def KI(P:Row):List Row:=h++[.cells [.R t 0],.cells [.v (.int .i64 a0)],R7,R3,P,.cells [.v (.int .i64 a0)],.cells [.v (.int .i64 b0)],A5 Tryz.prog BK .ready e0 [56] (lG 137 1) (lG 137 1001)]
def jO(h3:AK e0 3= .R h.length 0)(h4:AK e0 4= .R (h.length+1) 0)(G:AK e0 12= .R (h.length+4) 0){a q:Nat}{m:HM}{lf:Int->Option Int}(ht:h[t]?=some (.cells [.mr a,.mr q]))(hq:h[q]?=some m.row)(hm:IV lf m)(l:Nat)(n:Int)(hl:l<=12)(h0:0<=n)(h1:(n+1)*2^l<=4096)(pre:List (Nat×Int))(hp:pre.length<=2^20)(J:List Row):
  ∃J2,Ky Tryz.prog BK (h.length+7) [.v (BV l n)] (KI h t a0 b0 R7 R3 e0 (OX lf a0 pre)++J) true (KI h t a0 b0 R7 R3 e0 (OX lf a0 (pre++[(l,n)]))++(J++J2)):=by
 refine⟨[.cells [l,n]],CK (e0:=e0) (ps:=[56]) (asg:=(lG 137 1)) (body:=(lG 137 1001)) (by simp[KI]) rfl ?_⟩;have q1:=P7 l n hl h0 h1;have a1:=λZ=>AU Z ht;have U:∀Z,(h++Z)[q]?=some (.map (m.E.map JG) m.st m.ck):=λZ=>AU Z hq;have N:=m.lookH l n;rw[hm l hl n]at N;have rL:AV ((ER lf a0 pre).length+1) 8=true:=by have:=tx (λq:Nat×Int=>if (q.2+1)*2^q.1<=a0 then bH lf q.1 q.2 else none) pre;simp[AV,ER];omega
 have rR:AV ((EM lf a0 pre).length+1) 8=true:=by have:=tx (λq:Nat×Int=>if (q.2+1)*2^q.1<=a0 then none else bH lf q.1 q.2) pre;simp[AV,EM];omega
 have rS:AV ((DH lf pre).length+1) 1=true:=by simp[AV,DH];omega
 have eL:ER lf a0 (pre++[(l,n)])=ER lf a0 pre++(if (n+1)*2^l<=a0 then (bH lf l n).toList else []):=by simp only[ER,List.filterMap_append];congr 1;by_cases hc:(n+1)*2^l<=a0<;>cases hb:bH lf l n<;>simp[hc,hb]
 have eR:EM lf a0 (pre++[(l,n)])=EM lf a0 pre++(if (n+1)*2^l<=a0 then [] else (bH lf l n).toList):=by simp only[EM,List.filterMap_append];congr 1;by_cases hc:(n+1)*2^l<=a0<;>cases hb:bH lf l n<;>simp[hc,hb]
 have eS:DH lf (pre++[(l,n)])=DH lf pre++[if (bH lf l n).isSome then 1 else 0]:=by simp[DH]
 simp only[OX,eL,eR,eS];generalize ER lf a0 pre=LL at*;generalize EM lf a0 pre=RR at*;generalize DH lf pre=SS at*;generalize hB:bH lf l n=B at*;generalize a2:(n+1)*(2:Int)^l=la at*;generalize (l:Int)=L at*;have hc:(la-1 <a0)=(la<=a0):=propext ⟨λh=>AE,λh=>AE⟩;simp[BV]at q1;simp only[Zw,KI,BV,E5,BG 137 1,BG 137 1001,AB 137 12];simp[AQ];simp only[Aa,AB 137 13];simp[h3,a1];rcases N with ⟨W,e2⟩|⟨i,v,W,e2,e3⟩
 .subst W;simp[U,Be,V.eqL,V.eq1,e2,Da,AB 137 14,AB 137 15,G,AQ,rS,AN,BH]
 .subst W;simp[U,Be,V.eqL,V.eq1,e2,e3,Da,AD,AB 137 14,AB 137 16,G,AQ,rS,-List.getElem?_map];simp only[AB 137 17];simp[h4];refine⟨_,_,⟨rfl,rfl⟩,_,q1,?_⟩;by_cases O:la<=a0
  .simp[hc,O,AB 137 18,rL,BH]
  .simp[hc,O,AB 137 19,rR,BH]
def dV(h3:AK e0 3= .R h.length 0)(h4:AK e0 4= .R (h.length+1) 0)(N:AK e0 12= .R (h.length+4) 0){a q:Nat}{m:HM}{lf:Int->Option Int}(ht:h[t]?=some (.cells [.mr a,.mr q]))(hq:h[q]?=some m.row)(hm:IV lf m)(O:a0<=b0):
  ∃G,FX 301 [.yld (h.length+7),.R (h.length+5) 0,.R (h.length+6) 0] (KI h t a0 b0 R7 R3 e0 (OX lf a0 [])) [] (KI h t a0 b0 R7 R3 e0 (OX lf a0 (BA a0 b0 12 0))++G):=by
 have W:=E6 a0 b0 12 0;obtain⟨G,Z⟩:=dX a0 b0 O (λk=>KI h t a0 b0 R7 R3 e0 (OX lf a0 ((BA a0 b0 12 0).take k))) (h.length+8) (h.length+5) (h.length+6) (h.length+7) (λk=>by simp[KI]) (λk=>by simp[KI]) (λk=>by simp[KI]) λk q U J=>by obtain⟨g1,g2,g3,g4⟩:=Dx (Int.le_refl 0) (rY U);have hy:=jO h t a0 b0 R7 R3 e0 h3 h4 N ht hq hm q.1 q.2 g1 g2 (by simpa using g3) ((BA a0 b0 12 0).take k) (by rw[sJ];omega) J;rw[rx,U];exact hy
 rw[sE]at Z;exact⟨G,Z⟩
end
def Sm(a b:Int):Prop:=(0<=a/\a<=4095)/\(0<=b/\b<=4095)/\a<=b
def Tg(a b k:Int):Bool:=decide (a<=k/\k<=b)
instance (a b:Int):Decidable (Sm a b):=by unfold Sm;infer_instance
def Zt(a b:Int):PX 177 [a,b] [(decide (Sm a b):V)]:=by
 refine BS 177 ?_;have G:=(Zx a).fsp;have J:=(Zx b).fsp;have e:decide (Sm a b)=(decide (0<=a/\a<=4095)&&(decide (0<=b/\b<=4095)&&decide (a<=b))):=by rw[<-Bool.decide_and,<-Bool.decide_and];exact decide_eq_decide.2 Iff.rfl
 rw[e];generalize decide (0<=a/\a<=4095)=A at*;generalize decide (0<=b/\b<=4095)=B at*;simp only[As 177,AH,AJ,AB 177 0,AB 177 1,Ad];simp;refine⟨_,_,G _,?_⟩;cases A with
 |false=>simp[AA,AW 177]
 |true=>
  simp;refine⟨_,_,J _,?_⟩;cases B<;>simp[AA,AW 177]
def gO(a0 G:Int)(H:List Row)(t a:Nat)(d2:D)(K:KM)(ht:∀Z,(H++Z)[t]?=some (.cells [.mr a,d2]))(ha:∀Z,(H++Z)[a]?=some K.row)(S:List Int)(hS:∀k∈S,k∈K.E.map (·.1))(hn:S.length<=2^30)(hv:∀x∈K.E,x.2.length<=2^39)(W:Row)(X:List Row)(Q:AExit->St->Prop)(hQ:Q (.exit 0) ⟨[(2,(G:D)),(3,.R H.length 0),(4,.R (H.length+1) 0),(7,.R (H.length+2) 0),(9,.W 193 2 ((S.filter (Tg a0 G)).map (Iw K))),(26,.W 3 1 (S.map (.int .i64))),(27,(S.length:D)),(28,(S.length:D)),(29,(false:D))],H++(.cells [.R t 0]:: .cells [a0]::W::X)⟩):
  AX (.loop (lG 137 0)) Q ⟨[(2,(G:D)),(3,.R H.length 0),(4,.R (H.length+1) 0),(7,.R (H.length+2) 0),(9,.W 193 2 []),(26,.W 3 1 (S.map (.int .i64))),(27,(S.length:D)),(28,((0:Nat):D))],H++(.cells [.R t 0]:: .cells [a0]::W::X)⟩:=by
 refine Ab S.length (λk=>⟨[(2,(G:D)),(3,.R H.length 0),(4,.R (H.length+1) 0),(7,.R (H.length+2) 0),(9,.W 193 2 (((S.take k).filter (Tg a0 G)).map (Iw K))),(26,.W 3 1 (S.map (.int .i64))),(27,(S.length:D)),(28,(k:D))],H++(.cells [.R t 0]:: .cells [a0]::W::X)⟩) Ac ?_;intro k hk;simp only[Zw,BG 137 0,AB 137 5];simp;by_cases U:k <S.length
 .obtain⟨s,hs⟩:∃s,S[k]?=some s:=⟨_,rW U⟩;have b1:=rY hs;obtain⟨i,a6,N⟩:=fB K s (hS s b1);have w1:=Bt k;have b2:(S.take (k+1)).filter (Tg a0 G)=(S.take k).filter (Tg a0 G)++(if a0<=s/\s<=G then [s] else []):=by rw[rx,hs,tW];congr 1;by_cases hc:a0<=s/\s<=G<;>simp[Tg,hc]
  have a2:=sZ (Tg a0 G) (S.take k);rw[sJ]at a2;have b3:(M3 K s).length<=2^45:=by
   unfold M3;cases hf:K.E.find? λx=>x.1==s with
   |none=>simp
   |some y=>
    have:=hv y (List.mem_of_find?_eq_some hf);simp;omega
  have q:=(Yg (M3 K s) b3).fsp;have a1:∀Z,(H++Z)[a]?=some (.map (K.E.map IL) K.st K.ck):=ha;have a8:Iw K s= .agg [.int .i64 s,AM .u8 (M3 K s)]:=rfl;rw[b2];generalize (S.take k).filter (Tg a0 G)=F at*;have J:AV (F.length+1) 32=true:=by simp[AV];omega
  rw[CF,AD];simp only[AB 137 6];simp[hs];simp only[AB 137 7];by_cases O:a0<=s
  .by_cases c2:s<=G
   .rw[if_pos ⟨O,c2⟩];simp only[rq,sq,a8];generalize M3 K s=bs at*;simp[AM]at q;simp only[AM]at N;simp[O,c2];simp only[AB 137 8];simp[ht,a1,Be,V.eqL,V.eq1,a6,N,Da,-List.getElem?_map];refine⟨_,_,q _,?_⟩;simp[J,AB 137 9,w1,U,AM,AQ]
   .simp[O,c2,AD,AB 137 9,w1,U]
  .simp[O,AD,AB 137 9,w1,U]
 .have a7:k=S.length:=AE;subst a7;rw[Bj,AN];change Q (.exit 0) _;rw[sE];simpa using hQ
def eO(h:List Row)(hl:Low h)(t a q:Nat)(K:KM)(m:HM)(lf:Int->Option Int)(a0 G:Int)(O:Sm a0 G)(ht:h[t]?=some (.cells [.mr a,.mr q]))(ha:h[a]?=some K.row)(hq:h[q]?=some m.row)(hm:IV lf m)(hn:K.E.length<=2^30)(W:∀x∈K.E,(0<=x.1/\x.1<=4095)/\x.2.length<=2^39):
  FX 137 [.R t 0,a0,G] h [.W 193 2 (((EK (K.E.map (·.1))).filter (Tg a0 G)).map (Iw K)),.v (cu lf a0 G),((0:Int):D)] h:=by
 refine At (D6 137) rfl (ri _) hl (by simp[D.lt]) ?_;have N:(EK (K.E.map (·.1))).Perm (K.E.map (·.1)):=u4 _ _;have a7:(EK (K.E.map (·.1))).length=K.E.length:=by rw[N.length_eq,sD]
 have a1:∀k∈EK (K.E.map (·.1)),k∈K.E.map (·.1):=λk W=>N.mem_iff.1 W;have q1:=(Zt a0 G).fsp;rw[decide_eq_true O]at q1;have q2:=λZ=>ly (h++Z) a;have a2:∀Z,(h++Z)[a]?=some (.map (K.E.map IL) K.st K.ck):=λZ=>AU Z ha;have U:∀Z,(h++Z)[t]?=some (.cells [.mr a,.mr q]):=λZ=>AU Z ht;have q3:=λZ(r:Nat)(hr:(h++Z)[r]?=some (.cells [.mr a]))=>lz (h:=h++Z) (m:=a) (es:=K.E.map IL) (ks:=K.E.map (·.1)) hr (a2 Z) (by rw[tP,tP];rfl) (by rw[sD];exact hn) (by intro k a6;obtain⟨x,hx,rfl⟩:=rl.1 a6;have:=(W x hx).1;unfold i64;omega)
 have q4:=λZ=>Zp a0 G (h++Z);have J:=λR7 X Q=>gO a0 G h t a (.mr q) K U (λZ=>AU Z ha) (EK (K.E.map (·.1))) a1 AE (λx hx=>(W x hx).2) R7 X Q;generalize EK (K.E.map (·.1))=S at*;simp at q1;simp only[Zw,As 137,AB 137 0,AB 137 1,AZ];simp;refine⟨_,_,q1 _,?_⟩;simp[AD,AB 137 3,AB 137 4];simp[U];refine⟨_,_,(q2 _),?_⟩;simp;refine⟨_,_,(q3 _ _ ?_),?_⟩
 .simp
 simp;simp at J;refine J _ _ _ ?_;simp[AB 137 10,AB 137 11];refine⟨_,_,(q4 _),?_⟩;simp;obtain⟨J',hy⟩:=dV h t a0 G (.cells [.W 47 1 [],.W 47 1 [],.W 5 1 []]) (.cells [.mr a]) (FI [(3,.R h.length 0),(4,.R (h.length+1) 0),(7,.R (h.length+2) 0),(9,.W 193 2 ((S.filter (Tg a0 G)).map (Iw K))),(12,.R (h.length+4) 0),(55,.func 301 [.R (h.length+5) 0,.R (h.length+6) 0])]) rfl rfl rfl ht hq hm O.2.2;have e0:OX lf a0 []= .cells [.W 47 1 [],.W 47 1 [],.W 5 1 []]:=rfl;rw[e0]at hy;refine Dp (h':=KI h t a0 G (.cells [.W 47 1 [],.W 47 1 [],.W 5 1 []]) (.cells [.mr a]) (FI [(3,.R h.length 0),(4,.R (h.length+1) 0),(7,.R (h.length+2) 0),(9,.W 193 2 ((S.filter (Tg a0 G)).map (Iw K))),(12,.R (h.length+4) 0),(55,.func 301 [.R (h.length+5) 0,.R (h.length+6) 0])]) (OX lf a0 (BA a0 G 12 0))++J') (h.length+7) Ac 301 [.R (h.length+5) 0,.R (h.length+5+1) 0] [] _ .ready rfl rfl ?_ ?_ ?_
 .simpa[KI]using hy
 .simp[KI]
 .simp[Cg,KI,OX];simp only[Aa,AB 137 20];simp[AA,AW 137,D.one?,AQ,cu,AM]
def eP(h:List Row)(O:Low h)(t:Nat)(a0 G:Int)(J:¬Sm a0 G):
  FX 137 [.R t 0,a0,G] h [.W 193 2 [],.v (.agg [.list [],.list [],.list []]),((5:Int):D)] h:=by
 refine At (D6 137) rfl (ri _) O (by simp[D.lt]) ?_;have N:=(Zt a0 G).fsp;rw[decide_eq_false J]at N;simp at N;simp only[Zw,As 137,AB 137 0,AB 137 1,AZ];simp;refine⟨_,_,N _,?_⟩;simp[AA,AB 137 2,AW 137,D.one?,AQ,D.vs?,D.v?]
def KZ(q:Nat×Int):V:= .agg [.int .i64 (q.2*2^q.1),.int .i64 (2^q.1)]
def gm(X:List (Nat×Int)):BZ 2 (X.map KZ)=true:=by cases X<;>rfl
section
variable {f z a b:Int} (hf:0<=f/\f+z<=4096) (hz:1<=z) {h:List Row} (hl:Low h)
include hf hz hl
theorem ew(hc:f+z<=a\/b <f):FX 165 [.v (.agg [(f:V),(z:V)]),a,b] h [.W 281 2 [.agg [(f:V),(z:V)]]] h:=by
 refine At (D6 165) rfl (ri _) hl (by simp[D.lt]) ?_;have J:IntKind.i64.wrap (f+z)=f+z:=AS AE AE;by_cases G:f+z<=a
 .simp[As 165,awp,AB 165 0,AB 165 1,AB 165 2,AW 165,AZ,J,G]
 .have N:b <f:=AE;simp[As 165,awp,AB 165 0,AB 165 1,AB 165 2,AW 165,AZ,J,G,N]
theorem gg(N:¬f+z<=a)(h2:¬b <f)(G:a<=f/\f+z-1<=b):FX 165 [.v (.agg [(f:V),(z:V)]),a,b] h [.W 281 2 []] h:=by refine At (D6 165) rfl (ri _) hl (by simp[D.lt]) ?_;have O:IntKind.i64.wrap (f+z)=f+z:=AS AE AE;have U:IntKind.i64.wrap (f+z-1)=f+z-1:=AS AE AE;have J:f+z-1<=b:=G.2;simp[As 165,awp,AB 165 0,AB 165 1,AB 165 3,AB 165 4,AW 165,AZ,O,U,N,h2,G.1,J]
theorem jZ(h1:¬f+z<=a)(h2:¬b <f)(Z:¬(a<=f/\f+z-1<=b)){y:Int}(hy:z=2*y)(a2:1<=y){L R:List V}(hL:L.length<=2^20)(hR:R.length<=2^20)(hh:BZ 2 R=true)(N:∀h,Low h->FX 165 [.v (.agg [(f:V),(y:V)]),a,b] h [.W 281 2 L] h)(O:∀h,Low h->FX 165 [.v (.agg [((f+y:Int):V),(y:V)]),a,b] h [.W 281 2 R] h):
  FX 165 [.v (.agg [(f:V),(z:V)]),a,b] h [.W 281 2 (L++R)] h:=by
 refine At (D6 165) rfl (ri _) hl (by simp[D.lt]) ?_;have w1:IntKind.i64.wrap (f+z)=f+z:=AS AE AE;have w2:IntKind.i64.wrap (f+z-1)=f+z-1:=AS AE AE;have U:IntKind.i64.wrap y=y:=AS AE AE;have w4:IntKind.i64.wrap (f+y)=f+y:=AS AE AE;have d1:z.tdiv 2=y:=by rw[ub AE];omega
 have G:AV (L.length+R.length) 16=true:=by simp[AV];omega
 have J:Low (h++[.cells [f,z]]):=hl.app rfl;have N:=N _ J;have O:=O _ J;have a1:(decide (a<=f)&&decide (f+z-1<=b))=false:=by rw[<-Bool.decide_and];exact decide_eq_false Z
 simp only[As 165,AH,AJ,AO,AB 165 0,AB 165 1,AZ];simp[w1,h1,h2,AD,AB 165 3];by_cases W:a<=f
 .have c2:¬f+z-1<=b:=λh=>Z ⟨W,h⟩;simp[W,w2,c2,AB 165 5,d1,U];refine⟨_,_,N,?_⟩;simp[AB 165 6,d1,U,w4];refine⟨_,_,O,?_⟩;simp[hh,G,AA,AW 165]
 .have c5:f <a:=AE;simp[W,c5,AB 165 5,d1,U];refine⟨_,_,N,?_⟩;simp[AB 165 6,d1,U,w4];refine⟨_,_,O,?_⟩;simp[hh,G,AA,AW 165]
end
theorem mu(a b:Int)(a1:a<=b):∀(l:Nat)(n:Int),l<=12->0<=n->(n+1)*2^l<=4096->∀h,Low h->
  FX 165 [.v (KZ (l,n)),a,b] h [.W 281 2 ((BA a b l n).map KZ)] h:=by
 intro l;induction l with
 |zero=>
  intro n hl h0 N h G;simp at N;simp only[BA];split
  .rename_i hc;simp at hc;have:=ew (f:=n) (z:=1) (a:=a) (b:=b) AE AE G AE;simpa[KZ]using this
  .rename_i hc;simp at hc;have:=gg (f:=n) (z:=1) (a:=a) (b:=b) AE AE G AE AE AE;simpa[KZ]using this
 |succ l ih=>
  intro n hl h0 N h G;have e0:(2:Int)^(l+1)=2*2^l:=by rw[sb,sX]
  have hp:(1:Int)<=2^l:=sR Ah;have e1:(n+1)*2^(l+1)=(2*n+1)*2^l+2^l:=by rw[e0,<-si,<-Kx];congr 1;omega
  have e2:(2*n+1+1)*(2:Int)^l=(2*n+1)*2^l+2^l:=Kx _ _;have O:(2*n+1)*(2:Int)^l=2*n*2^l+2^l:=Kx _ _;have U:n*2^(l+1)=2*n*2^l:=by rw[e0,<-si,sX n 2]
  have a2:0<=2*n*(2:Int)^l:=uE AE AE;have W:=ih (2*n) AE AE AE;have J:=ih (2*n+1) AE AE AE;have n1:=E6 a b l (2*n);have n2:=E6 a b l (2*n+1);have a6:2^l<=2^20:=uX Ah AE;have Z:(n+1)*2^(l+1)=2*n*2^l+2*2^l:=by rw[e1,O];omega
  simp only[KZ,BA]at W J ⊢;rw[O]at J;rw[Z]at N;rw[Z,U];have e6:([(l+1,n)]:List (Nat×Int)).map KZ=[.agg [((2*n*2^l:Int):V),((2*2^l:Int):V)]]:=by show [V.agg [((n*2^(l+1):Int):V),((2^(l+1):Int):V)]]=_;rw[U,e0]
  rw[e0];by_cases hc:2*n*2^l+2*2^l<=a\/b <2*n*2^l
  .rw[if_pos hc,e6];exact ew AE AE G AE
  .rw[if_neg hc];by_cases hd:a<=2*n*2^l/\2*n*2^l+2*2^l-1<=b
   .rw[if_pos hd];exact gg AE AE G AE AE AE
   .rw[if_neg hd,r9];exact jZ (y:=2^l) AE AE G AE AE AE rfl hp Dd Dd (gm _) W J
open Go.Proofs
structure Ext where
 (kind file party day:Int)
 t:Th
 rs:List Rgt
 cl:List (Int×Int)
 fs:List Int
 (L R S:List Int)
def Ext.cs(x:Ext):List V:=[.int .i64 x.kind,.int .i64 x.file,.int .i64 x.party,.int .i64 x.day,AM .i64 x.t.cs,.list (x.t.vs.map Val.V),.list (x.t.ps.map Th.V),.list (x.rs.map Rgt.V),.list (x.cl.map BY),AM .i64 x.fs,AM .u64 x.L,AM .u64 x.R,AM .u8 x.S]
def Ext.V(x:Ext):V:= .agg x.cs
def rJ:DD Tryz.prog BK 83 1 (cM 131 135 137) jI=true:=HR
def Ext.row(x:Ext):Row:= .cells (x.cs.map .v)
def Ext.mkR(x:Ext)(rs:List Rgt)(cl:List (Int×Int)):Row:=
 .cells [.v (.int .i64 x.kind),.v (.int .i64 x.file),.v (.int .i64 x.party),.v (.int .i64 x.day),.v (AM .i64 x.t.cs),.v (.list (x.t.vs.map Val.V)),.v (.list (x.t.ps.map Th.V)),.W 32 8 (rs.map Rgt.V),.W 186 2 (cl.map BY),.v (AM .i64 x.fs),.v (AM .u64 x.L),.v (AM .u64 x.R),.v (AM .u8 x.S)]
def fx(x:Ext)(hn:x.rs.length<=2^30)(U:∀r∈x.rs,PX 83 [r.V] [r.V])(O:Row):
  AX (.loop (lG 30 0)) (λe s=>e= .exit 0/\AK s.e 1= .R 0 0/\AK s.e 2= .R 1 0/\AK s.e 3= .R 2 0/\s.h=[x.row,O,x.mkR x.rs []])
   ⟨[(1,.R 0 0),(2,.R 1 0),(3,.R 2 0),(4,((0:Int):D))],[x.row,O,x.mkR [] []]⟩:=by
 refine Ab x.rs.length (λk=>⟨[(1,.R 0 0),(2,.R 1 0),(3,.R 2 0),(4,(k:D))],[x.row,O,x.mkR (x.rs.take k) []]⟩) Ac ?_;intro k hk;simp only[Zw,BG 30 0,AB 30 3];simp[Ext.row,Ext.cs];by_cases N:k <x.rs.length
 .obtain⟨r,J⟩:∃r,x.rs[k]?=some r:=⟨_,rW N⟩;have Z:=Bt k;have G:AV (k+1) 144=true:=by simp[AV];omega
  have W:min k x.rs.length=k:=AE;have e:=C5 J Rgt.V;have q:=U r (rY J);simp only[Rgt.V,Rgt.cs,AM]at q;rw[CF,AD];simp only[Aa,AB 30 5];simp[J,Rgt.V,Rgt.cs,Ext.mkR,AM];refine⟨_,_,⟨rfl,rfl⟩,_,q,?_⟩;simp[W,G];simp[AB 30 4,Z,N,e,Rgt.V,Rgt.cs,AM]
 .have:k=x.rs.length:=AE;subst this;rw[Bj,AN];simp
def fw(x:Ext)(hn:x.cl.length<=2^30)(O:Row):
  AX (.loop (lG 30 1)) (λe s=>e= .exit 2/\AK s.e 1= .R 0 0/\AK s.e 2= .R 1 0/\AK s.e 3= .R 2 0/\s.h=[x.row,O,x.mkR x.rs x.cl])
   ⟨[(1,.R 0 0),(2,.R 1 0),(3,.R 2 0),(5,((0:Int):D))],[x.row,O,x.mkR x.rs []]⟩:=by
 refine Ab x.cl.length (λk=>⟨[(1,.R 0 0),(2,.R 1 0),(3,.R 2 0),(5,(k:D))],[x.row,O,x.mkR x.rs (x.cl.take k)]⟩) Ac ?_;intro k Z;simp only[Zw,BG 30 1,AB 30 7];simp[Ext.row,Ext.cs];by_cases J:k <x.cl.length
 .obtain⟨r,N⟩:∃r,x.cl[k]?=some r:=⟨_,rW J⟩;have W:=Bt k;have G:AV (k+1) 16=true:=by simp[AV];omega
  have U:min k x.cl.length=k:=AE;have e:=C5 N BY;rw[CF,AD];simp only[Aa,AB 30 9];simp[N,BY,Ext.mkR,AM,AQ,U,G];simp[AB 30 8,W,J,e,BY]
 .have:k=x.cl.length:=AE;subst this;rw[Bj,AN];simp
def qn(x:Ext)(h1:x.rs.length<=2^30)(h2:x.cl.length<=2^30)(W:∀r∈x.rs,PX 83 [r.V] [r.V]):PX 30 [x.V] [x.V]:=by refine BS 30 ?_;have Z:=λU=>fx x h1 W U;have q1:=λU=>fw x h2 U;simp only[Ext.mkR,Ext.row,Ext.cs,sq]at Z q1;simp only[As 30,AH,AJ,AY,AB 30 0,AB 30 1,Ad];simp[Ext.V,Ext.cs,AQ,AB 30 2];refine Ap _ ?_ (Z _);rintro e ⟨se,sh⟩ ⟨rfl,O,G,J,N⟩;simp only at O G J N;subst N;simp[AB 30 6,O,G,J];refine Ap _ ?_ (q1 _);rintro e ⟨se,sh⟩ ⟨rfl,O,G,J,N⟩;simp only at O G J N;subst N;simp[AB 30 10,G,J,AA,AW 30,D.vs?,D.v?,AQ,AM]
def Qh{r:Rgt}(h:r.tiny 3):(A7 r).length<=65536:=by have h1:=h.lc;have h2:=h.ld;have h3:=h.lb;have h4:=h.lo;have h5:=h.ll;have e0:=HC h.claims;have N:=Al r.file;have e2:=Al r.state;have O:=Al r.force;have U:=Cu (BM r.claims).length;have W:=Al r.dates.length;have e6:=DL Es r.dates;have Z:=HB r.bad;have e8:=Al r.owners.length;have e9:=DL Ep r.owners;have G:=Al r.lics.length;have J:=DL Er r.lics;simp only[A7,BR,re];omega
def IF{r:Rgt}(h:Ao r=true):0<=r.file/\r.file<=4095:=by unfold Ao at h;simp only[rX]at h;have:=h.1.1.1.1.1.1.1.1.1;simp only[ED,decide_eq_true_eq]at this;omega
def CS{l:List Int}{r:Rgt}(h:r∈Ae l):r.tiny 3:=by obtain⟨i,rfl,_⟩:=D7 h;exact K6 l i
def Hy(l:List Int):∀j <(Ae l).length,GM (Ae l) j=0:=by
 intro j hj;obtain⟨r,O⟩:∃r,(Ae l)[j]?=some r:=⟨_,rW hj⟩;have hm:=rY O;obtain⟨_,_,Z⟩:=D7 hm;have J:=DT l;have G:((Ae l).take j).any (λq=>q.file==r.file)=false:=by
  rw[tD];intro q hq;have W:Ae l=(Ae l).take j++(Ae l).drop j:=(sa j _).symm;rw[W,tL]at J;have U:r∈(Ae l).drop j:=by refine rY (i:=0) ?_;rw[tG,uH];exact O
  have:=J.2.2 q hq r U;simpa using this
 have N:=IF Z;have a1:=Qh (CS hm);rw[Oi O,Z,if_pos rfl,G];simp only[rz,if_false];unfold KT;rw[if_pos N,Bj]
def K5(l:List Int):TO (Ae l)=0:=Nc (Hy l)
def Ov(l:List Rgt):l.Pairwise (λa b=>a.file≠b.file)->(Ir l).E=l.map Fm:=by
 have key:∀n,∀l:List Rgt,l.length=n->l.Pairwise (λa b=>a.file≠b.file)->(Ir l).E=l.map Fm:=by
  intro n;induction n with
  |zero=>intro l h _;rw[sf h];rfl
  |succ n ih=>
   intro l h N;have J:l≠[]:=λe=>by rw[e]at h;cases h
   obtain⟨r,Z⟩:∃r,l=l.dropLast++[r]:=⟨l.getLast J,(List.dropLast_concat_getLast J).symm⟩;rw[Z]at N ⊢;have U:l.dropLast.length=n:=by rw[List.length_dropLast];omega
   rw[tL]at N;have O:=ih l.dropLast U N.1;rw[MX];have G:(l.dropLast.map Fm).findIdx? (λx=>x.1==r.file)=none:=by rw[F2,tD];intro q W;have:=N.2.2 q W r Ac;simpa using this
   unfold KM.set;rw[O,G];simp[Fm]
 exact key l.length l rfl
def Gl{l:List Rgt}(J:l.Pairwise (λa b=>a.file≠b.file)){r:Rgt}(G:r∈l):l.find? (λq=>q.file==r.file)=some r:=by
 induction l with
 |nil=>cases G
 |cons x l ih=>
  rw[List.pairwise_cons]at J;rw[List.find?_cons];rcases rj.1 G with rfl|G
  .simp
  .have:=J.1 r G;rw[show (x.file==r.file)=false by simpa using this];exact ih J.2 G
def En{l:List Rgt}(G:l.Pairwise (λa b=>a.file≠b.file)){r:Rgt}(J:r∈l):IG l r.file=r:=by unfold IG;rw[Gl G J];rfl
def Hg(l:List Rgt):List Rgt:=(EK (l.map Rgt.file)).map (IG l)
def Ia{l:List Rgt}(J:l.Pairwise (λa b=>a.file≠b.file)):(Hg l).Perm l:=by
 unfold Hg;have G:(EK (l.map Rgt.file)).Perm (l.map Rgt.file):=u4 _ _;have h2:=G.map (IG l);rw[tP]at h2;have e:l.map (IG l ∘ Rgt.file)=l:=by
  conv=>rhs;rw[<-List.map_id l]
  exact uN λr N=>En J N
 rw[e]at h2;exact h2
def Lf{l:List Rgt}(G:l.Pairwise (λa b=>a.file≠b.file)):(Hg l).Pairwise (λa b=>a.file≠b.file):=
 (Ia G).symm.pairwise G (λh=>Ne.symm h)
open Go.Proofs
def LT{I:Int->Int->Bool}{t:Th}{rs:List Rgt}{c:Int×Int}(h:c∈BX I t rs):∃r∈rs,r.file=c.1/\0<=c.2/\c.2 <r.claims.length:=by unfold BX at h;obtain⟨r,G,h⟩:=sj.1 h;unfold CJ at h;obtain⟨i,hi,rfl⟩:=rl.1 h;have:=Jj (sx.1 hi).1;exact⟨r,G,rfl,this.1,this.2⟩
def LU(I:Int->Int->Bool)(t:Th)(n:Nat):∀rs:List Rgt,(∀r∈rs,r.claims.length<=n)->(BX I t rs).length<=n*rs.length
 |[],_=>by simp[BX]
 |y::l,hy=>by
  have G:=LU I t n l λz J=>hy z (by simp[J]);have h2:=hy y Ac;have N:=Fh y;have O:(CJ I t y).length<=(Dz y).length:=by unfold CJ;rw[sD];exact sZ _ _
  unfold BX at G ⊢;rw[r7,re,sF,ux];omega
section
def TP{own:List Rgt}(N:own.Pairwise λa b=>a.file≠b.file):(EK ((Ir own).E.map (·.1))).map (Iw (Ir own))=(Hg own).map λr=>V.agg [(r.file:V),AM .u8 (A7 r)]:=by
 have O:=Ov own N;have W:(Ir own).E.map (·.1)=own.map Rgt.file:=by rw[O,tP];rfl
 rw[W];unfold Hg;rw[tP];refine uN λk Z=>?_;have G:k∈own.map Rgt.file:=(u4 _ _).mem_iff.1 Z;obtain⟨r,U,rfl⟩:=rl.1 G;have hv:M3 (Ir own) r.file=A7 r:=by unfold M3;rw[O,List.find?_map];have:(own.find? ((λx:Int×List Int=>x.1==r.file) ∘ Fm))=some r:=Gl N U;rw[this];rfl
 show Iw (Ir own) r.file=_;rw[Function.comp_apply,En N U];unfold Iw;rw[hv]
def HU:List V:=D8.map (AM .i64)
def OD:List Bool:=DC 6 zb
def Lv:OD.length=4096:=by unfold OD;rw[Kk,UK]
def G6(own:List Rgt):List Row:=Dw HU OD::F5 (.R 0 0) 1 own
def Pb(own:List Rgt):Low (G6 own):=by
 have N:∀row∈[Dw HU OD],row.low [Dw HU OD].length=true:=by
  intro row G;rw[rm.1 G];simp only[Dw,Row.low];refine Fb λd hd=>?_;rcases rj.1 hd with rfl|hd
  .rfl
  .obtain⟨b,_,rfl⟩:=rl.1 hd;rfl
 have O:PN [Dw HU OD] (.R 0 0) own (G6 own):=⟨[],by simp[G6],Ac⟩;exact O.low (by simp[D.lt]) N
variable {J h:List Row}
def aJ{Z:List Row}(hZ:Low (h++Z))(G:Lows J):Low (h++(Z++J)):=by rw[<-rn];exact hZ.lows G
end
open Go.Proofs
open Go.Proofs
def I6:Int->Int->Bool:=Cj HU.length OD
section
variable (l l2:List Int)
def SI{r:Rgt}(h:r∈Hg (Ae l)):r∈Ae l:=(Ia (DT l)).mem_iff.1 h
def Gx:(Ae l).length<=4:=by have G:=sZ Ao ((List.range (Aq l 0 5).toNat).map (DJ l));have h2:=Ez l 0 5 Ah;rw[sD,uy]at G;unfold Ae;omega
def Wj:(Hg (Ae l)).length<=4:=by rw[(Ia (DT l)).length_eq];exact Gx l
def P0:∀r∈Hg (Ae l),PX 113 [AM .u8 (A7 r)] [r.V,((0:Int):V)]:=by intro r O;have G:=SI l O;have J:=CS G;obtain⟨_,_,N⟩:=D7 G;have hc:=Ej G;exact nZ r (J.ok Ah) N hc.z (by have:=hc.n;omega) (Lt J Ah) (Rj J Ah)
theorem Ig:HU.length=6:=rfl
end
section
variable {J:List Row}
def Lows.both{K:List Row}(h:Lows J)(k:Lows K):Lows (J++K):=λrow G n=>by
 rcases rp.1 G with G|G
 .exact h row G n
 .exact k row G n
end
def RT(l:List Rgt)(k:Int):Jk (l.map Fm) k=(l.find? λr=>r.file==k).map λr=>CX r.file (A7 r):=by unfold Jk;rw[List.find?_map];have e:((λp:Int×List Int=>p.1==k) ∘ Fm)=λr=>r.file==k:=rfl;rw[e];cases l.find? (λr=>r.file==k)<;>rfl
def Ot{l:List Rgt}(J:l.Pairwise λa b=>a.file≠b.file):Jk ((Hg l).map Fm)=Jk (l.map Fm):=by
 funext k
 have U:=Lf J;have G:=Ia J;rw[RT,RT];cases h:l.find? (λr=>r.file==k)with
 |none=>
  have:(Hg l).find? (λr=>r.file==k)=none:=by rw[tb]at h ⊢;exact λx hx=>h x (G.mem_iff.1 hx)
  rw[this]
 |some r=>
  have O:=List.mem_of_find?_eq_some h;have N:r.file=k:=by simpa using List.find?_some h
  subst N;rw[Gl U (G.mem_iff.2 O)]
def GA(r:Rgt):V:= .agg [.int .i64 r.file,AM .u8 (A7 r)]
def OB:AC:=(.seq (.reg (oG 179 3) [0,2,5,7,8,9,10,11,12,13]) (.seq (.seq (.reg (oG 179 4) [2,5,7,8,9,10,11,12,13,25]) (.block 0 (.rangeF (.t 25 false) [26] (lG 179 0) (lG 179 1000)))) (.seq (.seq (.reg (oG 179 17) [7,8,9,10,11,12,13,76,77,78]) (.block 2 (.loop (lG 179 1)))) (.seq (.regA (oG 179 22) [8,9] [[],[],[],[2],[2,3],[1,2,3,4],[1,2,3,4,5],[1,2,3,4,5,6],[1,2,3,4,5,6,7],[1,2,3,4,5,6,7,8],[1,2,3,4,5,6,7,8,9],[1,2,3,4,5,6,7,8,9,10],[1,2,3,4,5,6,7,8,9,10,11],[1,2,3,4,5,6,7,8,9,10,11,12],[1,2,3,4,5,6,7,8,9,10,11,12,13],[1,2,3,4,5,6,7,8,9,10,11,12,13,14],[0,1,2,3,4,5,6,7,8,9,10,11],[0,1,2,3,4,5,6,7,8,9,10,11,12,13,14,15,16]] (.take 0 (.take 1 (.take 2 (.take 3 (.take 4 (.take 5 (.take 6 (.take 7 (.take 8 (.take 9 (.take 10 (.take 11 (.pick (.alt 12 (.take 13 (.take 14 (.take 15 (.take 16 (.take 17 .done))))) (.alt 16 (.take 12 (.take 13 (.take 14 (.take 15 (.take 17 .done))))) .none)))))))))))))))) .ret))))
section
def EP(l:List Rgt)(r:Rgt):Nat->Bool
 |0=>false
 |j+1=>match l[j]? with|none=>false|some q=>decide (r.file<=q.file)
def Ct(a b:Int)(l:List Rgt)(k:Nat):Bool:=
 match l[k]? with
 |none=>false
 |some r=>decide (r.file <a)||(decide (b <r.file)||(EP l r k||decide (65536 <((A7 r).length:Int))))
def Dr(a b:Int)(l:List Rgt):Bool:=(List.range l.length).any (Ct a b l)
variable {k:Nat}
def L3{a b:Int}{l:List Rgt}(G:k <l.length)(h:Ct a b l k=true):Dr a b l=true:=tX.2 ⟨k,sM.2 G,h⟩
def KO{a b:Int}{l:List Rgt}(h:∀k <l.length,Ct a b l k=false):Dr a b l=false:=by rw[Dr,tD];intro k G;rw[h k (sM.1 G)];simp
theorem eH(a b:Int)(rs:List Rgt)(hn:rs.length<=2^20)(hb:∀r∈rs,(A7 r).length<=2^60):
  PX 178 [a,b,(rs.map GA:V)] [.bool (Dr a b rs)]:=by
 refine BS 178 ?_;obtain⟨R,hR⟩:∃R,Dr a b rs=R:=⟨_,rfl⟩;rw[hR];simp only[As 178,AH,AJ,AY,AB 178 0,AB 178 1,Ad];simp;refine Ag rs.length (λk s=>(∀j <k,Ct a b rs j=false)/\∃J,s=⟨[(0,(a:D)),(1,(b:D)),(2,(rs.map GA:D)),(9,(rs.map GA:D)),(10,(rs.length:D)),(11,(k:D))],J⟩) ⟨λj hj=>AE,[],Ac⟩ ?_;rintro k s hk ⟨hI,J,rfl⟩;simp only[Zw,BG 178 0,AB 178 2];simp;by_cases O:k <rs.length
 .obtain⟨r,hr⟩:∃r,rs[k]?=some r:=⟨_,rW O⟩;have b3:=hb r (rY hr);have w1:=Bt k;have a6:Ct a b rs k=(decide (r.file <a)||(decide (b <r.file)||(EP rs r k||decide (65536 <((A7 r).length:Int))))):=by rw[Ct,hr]
  have U:Ct a b rs k=true->R=true:=λh=>by rw[<-hR];exact L3 O h
  have Z:Ct a b rs k=false->∀j <k+1,Ct a b rs j=false:=λh j hj=>by
   by_cases a1:j <k
   .exact hI j a1
   .have:j=k:=AE;rw[this];exact h
  rw[CF,AD];simp only[AB 178 3];simp[hr,GA,AQ,AM];simp only[Aa,AB 178 4];rw[a6]at U Z;by_cases G:r.file <a
  .have:=U (by simp[G]);subst this;cases k<;>simp[G,AB 178 5,AA,AW 178]
  by_cases h2:b <r.file
  .have:=U (by simp[h2]);subst this;cases k<;>simp[G,h2,AB 178 5,AA,AW 178]
  cases k with
  |zero=>
   have w0:IntKind.i64.wrap 1=1:=Ah;simp only[EP]at U Z;by_cases N:65536 <((A7 r).length:Int)
   .have:=U (by simp[N]);subst this;simp[G,h2,N,AB 178 5,AA,AW 178]
   .have:=Z (by simp[G,h2,N]);simp[G,h2,N,w0,AD,AB 178 6,O];exact this 0 AE
  |succ j=>
   obtain⟨q,hq⟩:∃q,rs[j]?=some q:=⟨_,rW AE⟩;have w2:IntKind.i64.wrap (((j+1:Nat):Int)-1)=j:=by rw[AS AE AE];omega
   have w3:IntKind.i64.wrap (j:Int)=j:=AS AE AE;have h5:(0:Int) <(j:Int)+1:=AE;simp at w1;simp only[EP,hq]at U Z;by_cases W:r.file<=q.file
   .have:=U (by simp[W]);subst this;simp[G,h2,W,h5,w3,hq,GA,AM,AB 178 5,AA,AW 178]
   by_cases N:65536 <((A7 r).length:Int)
   .have:=U (by simp[N]);subst this;simp[G,h2,N,W,h5,w3,hq,GA,AM,AB 178 5,AA,AW 178]
   .have:=Z (by simp[G,h2,N,W]);simp[G,h2,N,W,h5,w3,hq,GA,AM,AD,AB 178 6,w1,O];exact this
 .have a2:k=rs.length:=AE;subst a2;rw[KO hI]at hR;subst hR;rw[Bj,AN];simp[AB 178 7,AA,AW 178]
end
section
structure OM where
 E:List ((Int×Int)×Option Int)
 st:List Nat
 ck:Nat
def ND:List ((Int×Int)×Option Int)->Int×Int->Option (Option Int)
 |[],_=>none
 |x::E,k=>if x.1=k then some x.2 else ND E k
def P8:List ((Int×Int)×Option Int)->Int×Int->Option Int->List ((Int×Int)×Option Int)
 |[],k,v=>[(k,v)]
 |x::E,k,v=>if x.1=k then (k,v)::E else x::P8 E k v
def OM.get(m:OM)(k:Int×Int):Option (Option Int):=ND m.E k
def OM.set(m:OM)(k:Int×Int)(v:Option Int):OM:=
 if (m.get k).isSome then ⟨P8 m.E k v,m.st,m.ck⟩ else ⟨P8 m.E k v,m.st++[m.ck],m.ck+1⟩
def FS(x:(Int×Int)×Option Int):V×V:=(.agg [.int .i64 x.1.1,.int .i64 x.1.2],Ea x.2)
def OM.row(m:OM):Row:= .map (m.E.map FS) m.st m.ck
def QC:∀(E:List ((Int×Int)×Option Int))(k:Int×Int)(v:Option Int)(k':Int×Int),ND (P8 E k v) k'=if k'=k then some v else ND E k'
 |[],k,v,k'=>by simp only[P8,ND];by_cases h:k=k'<;>simp[h,eq_comm]
 |x::E,k,v,k'=>by
  simp only[P8];by_cases h:x.1=k
  .subst h;simp only[if_true,ND];by_cases h2:x.1=k'<;>simp[h2,eq_comm]
   intro G;exact absurd G.symm h2
  .rw[if_neg h];simp only[ND,QC E k v k'];by_cases h2:x.1=k'
   .subst h2;simp[h]
   .simp[h2]
def OM.get_set(m:OM)(k:Int×Int)(v:Option Int)(k':Int×Int):(m.set k v).get k'=if k'=k then some v else m.get k':=by unfold OM.set;split<;>exact QC _ _ _ _
def Jd(a b:Int):∀E:List ((Int×Int)×Option Int),Cr true [0,0] (.agg [(a:V),(b:V)]) (E.map FS)=some (E.findIdx? λx=>x.1==(a,b))
 |[]=>rfl
 |x::E=>by
  obtain⟨⟨c,d⟩,v⟩:=x;have J:Be true [0,0] (.agg [(c:V),(d:V)])=true:=by simp[Be,V.eqL,V.eq1,V.cells]
  simp only[rq,FS,Cr,J,if_true,V.cells,V.eqL,V.eq1,uP,Jd a b E,tO];have e:((c,d)==(a,b))=((a==c)&&(b==d)):=by
   rw[tC];simp
   constructor<;>(rintro⟨G,h2⟩;exact⟨G.symm,h2.symm⟩)
  rw[e];cases (a==c)&&(b==d)<;>simp
def Ga(k:Int×Int):∀E:List ((Int×Int)×Option Int),ND E k=(E.findIdx? λx=>x.1==k).bind λi=>(E[i]?).map (·.2)
 |[]=>rfl
 |x::E=>by
  simp only[ND,tO];by_cases h:x.1=k
  .simp[h]
  .simp[h,Ga k E];cases E.findIdx? λx=>x.1==k<;>simp
def Jb(k:Int×Int)(v:Option Int):∀E:List ((Int×Int)×Option Int),P8 E k v=match E.findIdx? λx=>x.1==k with|none=>E++[(k,v)]|some i=>E.set i (k,v)
 |[]=>rfl
 |x::E=>by
  simp only[P8,tO];by_cases h:x.1=k
  .simp[h]
  .simp only[h,if_false,Jb k v E];have:(x.1==k)=false:=by simp[h]
   rw[this];cases E.findIdx? λx=>x.1==k<;>simp
def OM.look(m:OM)(a b:Int):(m.get (a,b)=none/\Cr true [0,0] (.agg [.int .i64 a,.int .i64 b]) (m.E.map FS)=some none)\/
  ∃i v,m.get (a,b)=some v/\Cr true [0,0] (.agg [.int .i64 a,.int .i64 b]) (m.E.map FS)=some (some i)/\(m.E.map FS)[i]?=some (.agg [.int .i64 a,.int .i64 b],Ea v):=by
 have G:=Ga (a,b) m.E;rw[Jd];cases hi:m.E.findIdx? (λx=>x.fst==(a,b))with
 |none=>
  rw[hi]at G;exact .inl ⟨G,rfl⟩
 |some i=>
  rw[hi]at G;obtain⟨J,hx,_⟩:=tQ.1 hi;rw[sW,rW J]at G;refine .inr ⟨i,_,G,rfl,?_⟩;rw[rk,rW J];have:(m.E[i]).1=(a,b):=by simpa using hx
  simp[FS,this]
def OM.row_new{m:OM}{k:Int×Int}(v:Option Int)(h:(m.E.findIdx? λx=>x.1==k)=none):(m.set k v).row= .map (m.E.map FS++[FS (k,v)]) (m.st++[m.ck]) (m.ck+1):=by
 have G:m.get k=none:=by rw[OM.get,Ga,h];rfl
 have h2:=Jb k v m.E;rw[h]at h2;simp[OM.set,G,OM.row,h2]
variable {i:Nat}
def OM.row_old{m:OM}{k:Int×Int}(v:Option Int)(h:(m.E.findIdx? λx=>x.1==k)=some i):(m.set k v).row= .map ((m.E.map FS).set i (FS (k,v))) m.st m.ck:=by
 have G:=(tQ.1 h).1;have J:m.get k=some (m.E[i]).2:=by rw[OM.get,Ga,h];simp[G]
 have h2:=Jb k v m.E;rw[h]at h2;simp[OM.set,J,OM.row,h2,List.map_set]
def M1(g:Int×Int->Option (Option Int)):Nat->Int->Option Int
 |0,n=>(g (0,n)).getD none
 |l+1,n=>match g (((l+1:Nat):Int),n)with|some h=>h|none=>Eg (M1 g l (2*n)) (M1 g l (2*n+1))
theorem eE(m:OM)(rh rc q:Nat):∀(l:Nat),l<=12->∀(H:List Row)(_:H[rh]?=some (.cells [.mr q]))(_:H[q]?=some m.row)(_:H[rc]?=some (.cells [.func 180 [.R rh 0,.R rc 0]]))(_:Low H)(n:Int),0<=n->n <2^(12-l)->
  FX 180 [.v (BV l n),.R rh 0,.R rc 0] H [.v (Ea (M1 m.get l n))] H:=by
 intro l;induction l with
 |zero=>
  intro _ H h1 h2 h3 W n a1 a2;refine At (D6 180) rfl (ri _) W (by simp[D.lt]) ?_;have N:=λZ=>AU Z h1;have O:∀Z,(H++Z)[q]?=some (.map (m.E.map FS) m.st m.ck):=λZ=>AU Z h2;have U:=m.look 0 n;simp only[M1];simp only[As 180,AH,AJ,AO,AB 180 0,AB 180 1,AZ];simp[BV,AQ];rcases U with ⟨J,e2⟩|⟨i,v,J,e2,e3⟩
  all_goals simp only[Ea]at*
  .simp[N,O,Be,V.eqL,V.eq1,e2,Da];simp only[AB 180 2];simp;simp[AB 180 3,AQ,AA,AW 180,J,D.one?,D.vs?,D.v?]
  .simp[N,O,Be,V.eqL,V.eq1,e2,e3,Da,-List.getElem?_map];simp only[AB 180 2];simp;simp[AB 180 3,AQ,AA,AW 180,J,D.one?,D.vs?,D.v?]
 |succ l ih=>
  intro a6 H h1 h2 h3 W n a1 a2;have a8:(2:Int)^(12-l)=2*2^(12-(l+1)):=by rw[show 12-l=(12-(l+1))+1 by omega,sb];omega
  have a7:(2:Int)^(12-(l+1))<=2048:=by
   have:(2:Int)^(12-(l+1))<=2^11:=by exact_mod_cast uX (by decide:0 <2) (by omega:12-(l+1)<=11)
   simpa using this
  refine At (D6 180) rfl (ri _) W (by simp[D.lt]) ?_;have N:=λZ=>AU Z h1;have O:∀Z,(H++Z)[q]?=some (.map (m.E.map FS) m.st m.ck):=λZ=>AU Z h2;have g3:=λZ=>AU Z h3;have U:=m.look (l+1:Nat) n;have q1:=(W7 (l+1:Nat) n AE AE).fsp;have el:((l+1:Nat):Int)-1=l:=AE;rw[el]at q1;have hz:¬((l+1:Nat):Int)=0:=AE;have hJ:Lows [.cells [((l+1:Nat):D),n],.cells [.v (.int .u64 0),.v (.bool false)],.cells [.v (.int .u64 0),.v (.bool false)],.cells [l,((2*n:Int):D)],.cells [l,((2*n+1:Int):D)]]:=by intro row G n;simp only[rj,sK,or_false]at G;rcases G with rfl|rfl|rfl|rfl|rfl<;>rfl
  have q2:=ih AE _ (N _) (O _) (g3 _) (W.lows hJ) (2*n) AE AE;have q3:=ih AE _ (N _) (O _) (g3 _) (W.lows hJ) (2*n+1) AE AE;have q4:=eD (M1 m.get l (2*n)) (M1 m.get l (2*n+1));simp only[M1];generalize Eg (M1 m.get l (2*n)) (M1 m.get l (2*n+1))=B at*;generalize M1 m.get l (2*n)=b1 at*;generalize M1 m.get l (2*n+1)=b2 at*;rcases U with ⟨J,e2⟩|⟨i,v,J,e2,e3⟩
  .rw[J];generalize ((l+1:Nat):Int)=L at*;simp[BV]at q1 q2 q3 q4;simp only[As 180,AH,AJ,AO,AB 180 0,AB 180 1,AZ];simp[BV,AQ];simp[N,O,Be,V.eqL,V.eq1,e2,Da];simp only[AB 180 2];simp[hz,AD];simp only[AB 180 4];simp;refine⟨_,_,q1 _,?_⟩;simp[AQ];rw[Bf];refine Bc _ (λs hs=>⟨s,.inl rfl,hs⟩) ?_;simp only[AB 180 5];simp[g3];refine⟨_,_,q2,⟨[],Ac⟩,?_⟩;simp;refine⟨_,_,q3,⟨[],Ac⟩,?_⟩;simp;refine⟨_,_,⟨rfl,rfl⟩,_,q4,?_⟩;simp[AQ,AA,AW 180,Ea,D.one?,D.vs?,D.v?]
  .clear q1 q2 q3 q4;generalize ((l+1:Nat):Int)=L at*;simp only[J];simp only[Ea]at e3 ⊢;simp only[As 180,AH,AJ,AO,AB 180 0,AB 180 1,AZ];simp[BV,AQ];simp[N,O,Be,V.eqL,V.eq1,e2,e3,Da,-List.getElem?_map];simp only[AB 180 2];simp;simp[AB 180 3,AQ,AA,AW 180,D.one?,D.vs?,D.v?]
end
section
variable {r:Nat}
section
variable {lv n f la a b:Int} {H:List Row} {x y z u:Nat} (q1:PX 240 [BV lv n] [.int .i64 la]) (q2:PX 271 [BV lv n] [.int .i64 f])
 (hx:H[x]?=some (.cells [.v (.int .i64 a)])) (hy:H[y]?=some (.cells [.v (.int .i64 b)]))
include q1 q2 hx hy
theorem eu(hz:H[z]?=some (.cells [.yld r]))(h:la <a\/b <f){U:List Row}(N:Ky Tryz.prog BK r [.v (BV lv n)] (H++[.cells [lv,n]]) false U):
  FX 302 [.v (BV lv n),.R x 0,.R y 0,.R z 0,.R u 0] H [(false:D)] U:=by
 refine EH 302 ?_;have G:=AU [.cells [lv,n]] hx;have O:=AU [.cells [lv,n]] hy;have J:=AU [.cells [lv,n]] hz;simp[BV]at q1 q2 N;simp only[As 302,AH,AJ,Aa,AO,AB 302 0,AB 302 1,AZ,BV];simp[-Bool.exists_bool];refine⟨_,_,⟨rfl,rfl⟩,_,q1,?_⟩;by_cases W:la <a
 .simp[G,W,-Bool.exists_bool];simp[AB 302 2,J,-Bool.exists_bool];exact⟨_,_,N,by simp[AA,AW 302]⟩
 .have Z:b <f:=AE;simp[G,W,-Bool.exists_bool];refine⟨_,_,⟨rfl,rfl⟩,_,q2,?_⟩;simp[O,Z,-Bool.exists_bool];simp[AB 302 2,J,-Bool.exists_bool];exact⟨_,_,N,by simp[AA,AW 302]⟩
theorem cg{G n0 n1:Int}(hu:H[u]?=some (.cells [.func 302 [.R x 0,.R y 0,.R z 0,.R u 0]]))(h1:¬la <a)(h2:¬b <f)(h3:¬(a<=f/\la<=b))(U:PX 181 [BV lv n] [BV G n0,BV G n1]){H1:List Row}(g1:FX 302 [.v (BV G n0),.R x 0,.R y 0,.R z 0,.R u 0] (H++[.cells [lv,n],.cells [G,n0],.cells [G,n1]]) [(false:D)] H1):
  FX 302 [.v (BV lv n),.R x 0,.R y 0,.R z 0,.R u 0] H [(false:D)] H1:=by
 refine EH 302 ?_;have N:=AU [.cells [lv,n]] hx;have O:=AU [.cells [lv,n]] hy;have J:=λZ=>AU Z hu;have U:=U.fsp;simp[BV]at q1 q2 U g1;simp only[As 302,AH,AJ,Aa,AO,AB 302 0,AB 302 1,AZ,BV];simp;refine⟨_,_,⟨rfl,rfl⟩,_,q1,?_⟩;simp[N,h1];refine⟨_,_,⟨rfl,rfl⟩,_,q2,?_⟩;simp[O,h2,AD,AB 302 3]
 try simp only[Aa]
 try simp
 refine⟨_,_,⟨rfl,rfl⟩,_,q2,?_⟩;simp[N];by_cases W:a<=f
 .have c4:¬la<=b:=λh=>h3 ⟨W,h⟩;simp[W];refine⟨_,_,⟨rfl,rfl⟩,_,q1,?_⟩;simp[O,c4,AB 302 5];refine⟨_,_,U _,?_⟩;simp[AQ,AB 302 6,J];refine⟨_,_,g1,?_⟩;simp[AA,AW 302]
 .have c5:f <a:=AE;simp[W,c5,AB 302 5];refine⟨_,_,U _,?_⟩;simp[AQ,AB 302 6,J];refine⟨_,_,g1,?_⟩;simp[AA,AW 302]
theorem ce{G n0 n1:Int}(hu:H[u]?=some (.cells [.func 302 [.R x 0,.R y 0,.R z 0,.R u 0]]))(h1:¬la <a)(h2:¬b <f)(h3:¬(a<=f/\la<=b))(W:PX 181 [BV lv n] [BV G n0,BV G n1]){H1 H2:List Row}(g1:FX 302 [.v (BV G n0),.R x 0,.R y 0,.R z 0,.R u 0] (H++[.cells [lv,n],.cells [G,n0],.cells [G,n1]]) [(true:D)] H1)(N:H1[u]?=some (.cells [.func 302 [.R x 0,.R y 0,.R z 0,.R u 0]]))(h8:H1[H.length+2]?=some (.cells [G,n1]))(g2:FX 302 [.v (BV G n1),.R x 0,.R y 0,.R z 0,.R u 0] H1 [(false:D)] H2):
  FX 302 [.v (BV lv n),.R x 0,.R y 0,.R z 0,.R u 0] H [(false:D)] H2:=by
 refine EH 302 ?_;have O:=AU [.cells [lv,n]] hx;have U:=AU [.cells [lv,n]] hy;have J:=λZ=>AU Z hu;have W:=W.fsp;simp[BV]at q1 q2 W g1 g2;simp only[As 302,AH,AJ,Aa,AO,AB 302 0,AB 302 1,AZ,BV];simp;refine⟨_,_,⟨rfl,rfl⟩,_,q1,?_⟩;simp[O,h1];refine⟨_,_,⟨rfl,rfl⟩,_,q2,?_⟩;simp[U,h2,AD,AB 302 3]
 try simp only[Aa]
 try simp
 refine⟨_,_,⟨rfl,rfl⟩,_,q2,?_⟩;simp[O];by_cases c3:a<=f
 .have c4:¬la<=b:=λh=>h3 ⟨c3,h⟩;simp[c3];refine⟨_,_,⟨rfl,rfl⟩,_,q1,?_⟩;simp[U,c4,AB 302 5];refine⟨_,_,W _,?_⟩;simp[AQ,AB 302 6,J];refine⟨_,_,g1,?_⟩;simp[N,h8];refine⟨_,_,g2,?_⟩;simp[AA,AW 302]
 .have c5:f <a:=AE;simp[c3,c5,AB 302 5];refine⟨_,_,W _,?_⟩;simp[AQ,AB 302 6,J];refine⟨_,_,g1,?_⟩;simp[N,h8];refine⟨_,_,g2,?_⟩;simp[AA,AW 302]
end
theorem dT(a b:Int)(a6:a<=b)(S:Nat->List Row)(S':List Row)(L x y r z u:Nat)(hL:∀k,(S k).length=L)(hx:∀k,(S k)[x]?=some (.cells [a]))(hy:∀k,(S k)[y]?=some (.cells [b])):
  ∀(l:Nat)(n:Int)(k:Nat)(J:List Row)(i j T:Nat),l<=12->0<=n->(n+1)*2^l<=4096->
   (∀t q,(BA a b l n)[t]?=some q->t <T->∀J,∃J2,Ky Tryz.prog BK r [.v (BV q.1 q.2)] (S (k+t)++J) true (S (k+t+1)++(J++J2)))->
   T <(BA a b l n).length->(∀q,(BA a b l n)[T]?=some q->∀J,∃J2,Ky Tryz.prog BK r [.v (BV q.1 q.2)] (S (k+T)++J) false (S'++(J++J2)))->
   z=L+i->u=L+j->J[i]?=some (.cells [.yld r])->J[j]?=some (.cells [.func 302 [.R x 0,.R y 0,.R z 0,.R u 0]])->
   ∃J',FX 302 [.v (BV l n),.R x 0,.R y 0,.R z 0,.R u 0] (S k++J) [.v (.bool false)] (S'++(J++J')):=by
 have get:∀(k i z:Nat)(J:List Row),z=L+i->(S k++J)[z]?=J[i]?:=λk i z J h=>BQ (S k) J z i (by rw[hL];exact h);intro l n k J i j T U N O hY G W hz hu hi hj;have Z:∀(l:Nat)(n:Int)(k:Nat)(J:List Row),l<=12->0<=n->(n+1)*2^l<=4096->(∃J2,Ky Tryz.prog BK r [.v (BV l n)] (S k++(J++[.cells [l,n]])) false (S'++(J++[.cells [l,n]]++J2)))->
   J[i]?=some (.cells [.yld r])->(n+1)*2^l<=a\/b <n*2^l->
   ∃J',FX 302 [.v (BV l n),.R x 0,.R y 0,.R z 0,.R u 0] (S k++J) [.v (.bool false)] (S'++(J++J')):=by
  rintro l n k J U N O ⟨J2,a7⟩ hi hc;refine⟨[.cells [l,n]]++J2,eu (P7 l n U N O) (Oa l n U N O) (AU _ (hx k)) (AU _ (hy k)) (by rw[get k i z J hz];exact hi) AE ?_⟩;rw[rn,<-rn J];exact a7
 induction l generalizing n k J T with
 |zero=>
  simp only[BA]at hY G W ⊢;split at G
  .rename_i hc;rw[if_pos hc]at W;obtain rfl:T=0:=by simp at G;omega
   exact Z 0 n k J U N O (W _ rfl _) hi hc
  .simp at G
 |succ l ih=>
  have e0:(2:Int)^(l+1)=2*2^l:=by rw[sb,sX]
  have hp:(1:Int)<=2^l:=sR Ah;have e1:(n+1)*2^(l+1)=(2*n+1)*2^l+2^l:=by rw[e0,<-si,<-Kx];congr 1;omega
  have e2:(2*n+1+1)*(2:Int)^l=(2*n+1)*2^l+2^l:=Kx _ _;by_cases hc:(n+1)*2^(l+1)<=a\/b <n*2^(l+1)
  .simp only[BA,if_pos hc]at hY G W ⊢;obtain rfl:T=0:=by simp at G;omega
   exact Z (l+1) n k J U N O (W _ rfl _) hi hc
  .by_cases hd:a<=n*2^(l+1)/\(n+1)*2^(l+1)-1<=b
   .simp only[BA,if_neg hc,if_pos hd]at G;simp at G
   .simp only[BA,if_neg hc,if_neg hd]at hY G W ⊢;have q3:=W7 (l+1:Nat) n AE (by have h5:=Int.mul_le_mul_of_nonneg_left hp (show 0<=2*n+1 by omega);rw[Int.mul_one]at h5;omega);have el:((l+1:Nat):Int)-1=l:=AE;rw[el]at q3;by_cases a2:T <(BA a b l (2*n)).length
    .obtain⟨J1,g1⟩:=ih (2*n) k (J++[.cells [((l+1:Nat):D),n],.cells [l,((2*n:Int):D)],.cells [l,((2*n+1:Int):D)]]) T AE AE AE
      (λt q ht a1 J=>hY t q (by rw[sI (rZ.1 ht).1];exact ht) a1 J) a2 (λq hq J=>W q (by rw[sI a2];exact hq) J) (AU _ hi) (AU _ hj)
     rw[<-rn (S k)]at g1;refine⟨[.cells [((l+1:Nat):D),n],.cells [l,((2*n:Int):D)],.cells [l,((2*n+1:Int):D)]]++J1,?_⟩;have:=cg (P7 (l+1) n U N O) (Oa (l+1) n U N O) (AU _ (hx k)) (AU _ (hy k)) (by rw[get k j u J hu];exact hj) AE AE AE q3 g1;simpa[rn]using this
    .obtain⟨J1,g1⟩:=dU a b a6 S L x y r z u hL hx hy l (2*n) k (J++[.cells [((l+1:Nat):D),n],.cells [l,((2*n:Int):D)],.cells [l,((2*n+1:Int):D)]]) i j AE AE AE
      (λt q ht J=>hY t q (by rw[sI (rZ.1 ht).1];exact ht) (by have:=(rZ.1 ht).1;omega) J) hz hu (AU _ hi) (AU _ hj)
     obtain⟨J3,g2⟩:=ih (2*n+1) (k+(BA a b l (2*n)).length) (J++[.cells [((l+1:Nat):D),n],.cells [l,((2*n:Int):D)],.cells [l,((2*n+1:Int):D)]]++J1) (T-(BA a b l (2*n)).length) AE AE AE
      (λt q ht a1 J=>by
       have:=hY ((BA a b l (2*n)).length+t) q (by rw[sO AE];simpa using ht) AE J;simpa[Nat.add_assoc]using this) (by rw[re]at G;omega) (λq hq J=>by
       have:=W q (by rw[sO AE];exact hq) J;rw[show k+(BA a b l (2*n)).length+(T-(BA a b l (2*n)).length)=k+T by omega];exact this) (AU _ (AU _ hi)) (AU _ (AU _ hj))
     rw[<-rn (S k)]at g1;refine⟨[.cells [((l+1:Nat):D),n],.cells [l,((2*n:Int):D)],.cells [l,((2*n+1:Int):D)]]++J1++J3,ce (P7 (l+1) n U N O) (Oa (l+1) n U N O) (AU _ (hx k)) (AU _ (hy k)) (by rw[get k j u J hu];exact hj) AE AE AE q3 g1 (by rw[get _ j u _ hu];exact AU _ (AU _ hj)) ?_ ?_⟩
     .rw[re,hL,get _ (J.length+2) _ _ AE];refine AU _ ?_;rw[sO AE];simp
     .simpa[rn]using g2
def dW(a b:Int)(U:a<=b)(S:Nat->List Row)(O:List Row)(L x y r T:Nat)(W:∀k,(S k).length=L)(hx:∀k,(S k)[x]?=some (.cells [a]))(hy:∀k,(S k)[y]?=some (.cells [b]))(hY:∀t q,(BA a b 12 0)[t]?=some q->t <T->∀J,∃N,Ky Tryz.prog BK r [.v (BV q.1 q.2)] (S t++J) true (S (t+1)++(J++N)))(hT:T <(BA a b 12 0).length)(hF:∀q,(BA a b 12 0)[T]?=some q->∀J,∃N,Ky Tryz.prog BK r [.v (BV q.1 q.2)] (S T++J) false (O++(J++N))):
  ∃G,FX 301 [.yld r,.R x 0,.R y 0] (S 0) [] (O++G):=by
 obtain⟨G,q⟩:=dT a b U S O L x y r L (L+1) W hx hy 12 0 0 [.cells [.yld r],.cells [.func 302 [.R x 0,.R y 0,.R L 0,.R (L+1) 0]]] 0 1 T AE AE Ah (by simpa using hY) hT (by simpa using hF) rfl rfl rfl rfl;refine⟨[.cells [.yld r],.cells [.func 302 [.R x 0,.R y 0,.R L 0,.R (L+1) 0]]]++G,EH 301 ?_⟩;simp[BV]at q;have Z:=W 0;generalize S 0=S0 at*;subst Z;simp only[As 301,AH,AJ,AB 301 0,AB 301 1,AB 301 2,AB 301 3,AZ];simp[AQ,D.vs?,D.v?]
 first|refine⟨_,_,q,?_⟩|refine⟨_,q,?_⟩|refine⟨_,⟨_,q⟩,?_⟩|exact⟨_,q⟩|exact⟨_,_,q⟩|refine⟨⟨_,q⟩,?_⟩
 try simp[AW 301]
end
section
structure KN where
 m:OM
 L:List Int
 R:List Int
 i:Nat
def KN.side(s:KN)(up:Bool):List Int:=if up then s.R else s.L
def KN.step(S:List Int)(b:Int)(s:KN)(q:Nat×Int):Option KN:=
 match S[s.i]? with
 |none=>none
 |some c=>if 1 <c then none else
  let up:=decide (b <q.2*2^q.1)
  let m1:=s.m.set (q.1,q.2) none
  if c=1 then match s.side up with
   |[]=>none
   |v::t=>some ⟨m1.set (q.1,q.2) (some v),if up then s.L else t,if up then t else s.R,s.i+1⟩
  else some ⟨m1,s.L,s.R,s.i+1⟩
def ZI:AC:=match ll 179 1000 with| .block _ (.seq _ (.seq _ (.seq _ (.seq _ (.seq (.seq _ (.cond _ (.seq _ b) _)) _)))))=>b|_=> .skip
def OM.wf(m:OM):Prop:=m.st=List.range m.E.length/\m.ck=m.E.length
theorem OM.wf_set{m:OM}(h:m.wf)(k:Int×Int)(v:Option Int):(m.set k v).wf:=by
 obtain⟨U,h2⟩:=h;have G:=Ga k m.E;have J:=Jb k v m.E;unfold OM.set OM.wf;cases hi:m.E.findIdx? (λx=>x.1==k)with
 |none=>
  rw[hi]at G J;have:m.get k=none:=G;simp[this,J,U,h2,tF]
 |some i=>
  rw[hi]at G J;have O:=(tQ.1 hi).1;have:m.get k=some (m.E[i]).2:=by rw[OM.get,G];simp[O]
  simp[this,J,U,h2]
variable {N i:Nat}
def Ti(h:i <N):(List.range N).findIdx? (λx:Nat=>(x:Int)==(i:Int))=some i:=by rw[tQ];refine⟨by simpa using h,Ac,λj G=>?_⟩;simp;omega
theorem Yc(m:OM)(J n:Int){H:List Row}{q t Z:Nat}(hq:H[q]?=some m.row)(ht:H[t]?=some (.cells [.mr q]))(hb:H[Z]?=some (.cells [J,n])){e:CC}(f10:AK e 10= .R t 0)(f14:AK e 14= .R Z 0){K:St->Prop}(G:∀e',(∀x <40,AK e' x=AK e x)->K ⟨e',H.set q (m.set (J,n) none).row⟩):Bd Tryz.prog BK (oG 179 11) K ⟨e,H⟩:=by
 have U:=Jd J n m.E;have W:H[q]?=some (.map (m.E.map FS) m.st m.ck):=hq;simp only[AB 179 11];simp[f10,f14,ht,hb,W,U,Be,V.eqL,V.eq1];cases hi:m.E.findIdx? (λx=>x.fst==(J,n))with
 |none=>
  rw[OM.row_new none hi]at G;simp[FS,Ea]at G ⊢;refine G _ λx hx=>?_;have O:∀y,44<=y->(y==x)=false:=λy hy=>by simp;omega
  simp[AK,show ¬44=x by omega,show ¬45=x by omega,show ¬46=x by omega]
 |some i=>
  rw[OM.row_old none hi]at G;simp[FS,Ea]at G ⊢;refine G _ λx hx=>?_;have O:∀y,44<=y->(y==x)=false:=λy hy=>by simp;omega
  simp[AK,show ¬44=x by omega,show ¬45=x by omega,show ¬46=x by omega]
theorem cj(m:OM)(O n v:Int)(tl:List Int){H:List Row}{q t bk U:Nat}(hq:H[q]?=some m.row)(ht:H[t]?=some (.cells [.mr q]))(hb:H[bk]?=some (.cells [O,n]))(b1:H[U]?=some (.cells [.v (AM .u64 (v::tl))]))(a7:q≠U)(a2:m.wf){i:Nat}(hi:m.E.findIdx? (λx=>x.fst==(O,n))=some i){e:CC}(f10:AK e 10= .R t 0)(f14:AK e 14= .R bk 0)(f15:AK e 15= .R U 0){K:AExit->St->Prop}(hK:∀e',AK e' 13=AK e 13->K .normal ⟨e',(H.set q (m.set (O,n) (some v)).row).set U (.cells [.v (AM .u64 tl)])⟩):AX ZI K ⟨e,H⟩:=by
 have a6:=Jd O n m.E;have a8:H[q]?=some (.map (m.E.map FS) m.st m.ck):=hq;rw[AX,show ZI= .regA (oG 179 15) _ _ _ from rfl,Bf];refine Bc _ (λs hs=>⟨s,.inl rfl,hs⟩) ?_;simp only[AB 179 15];have J:=(tQ.1 hi).1;have b3:m.st[i]?=some i:=by rw[a2.1,tT J]
 have b2:m.st.findIdx? (λx:Nat=>(x:Int)==(i:Int))=some i:=by rw[a2.1];exact Ti J
 have G:(m.E.map FS)[i]?=some (FS m.E[i]):=by rw[rk,rW J];rfl
 have W:(m.E[i]).1=(O,n):=by simpa using (tQ.1 hi).2.1
 have Z:=OM.row_old (some v) hi;have b4:(tl.map (V.int .u64)).take tl.length=tl.map (V.int .u64):=sN Ac;have a1:∀y,(H.set q y)[U]?=H[U]?:=λy=>sG a7;have hE:FS m.E[i]=(.agg [(O:V),(n:V)],Ea (m.E[i]).2):=by simp[FS,W]
 rw[hE]at G;rw[Z]at hK;simp only[FS,Ea,AM,sA,Option.isSome_some]at hK G;simp[f10,f14,f15,ht,hb,b1,AM,AQ,a8,a6,hi,Be,V.eqL,V.eq1,b3,b2,G,a1,b4,-List.getElem?_map]
 all_goals exact hK _ (by simp[AK])
section
variable (h:List Row) (fl:Bool) (a0 b0:Int) (L0 R0 S:List Int) (e0:CC)
def D3(t8 t9:D)(s:KN)(tag:Tag):List Row:=h++[.cells [.v (.int .i64 b0)],.cells [.v (AM .u64 L0),.v (AM .u64 R0),.v (AM .u8 S)],.cells [t8],.cells [t9],s.m.row,.cells [.mr (h.length+4)],
 .cells [.v (AM .u64 (if fl then s.R else s.L))],.cells [.v (AM .u64 (if fl then s.L else s.R))],.cells [.v (.int .i64 s.i)],.cells [.v (.int .i64 a0)],.cells [.v (.int .i64 b0)],A5 Tryz.prog BK tag e0 [26] (lG 179 0) (lG 179 1000)]
variable (h5:AK e0 5= .R h.length 0) (h7:AK e0 7= .R (h.length+1) 0) (h8:AK e0 8= .R (h.length+2) 0) (h9:AK e0 9= .R (h.length+3) 0) (h10:AK e0 10= .R (h.length+5) 0)
 (h11:AK e0 11= .R (if fl then h.length+7 else h.length+6) 0) (h12:AK e0 12= .R (if fl then h.length+6 else h.length+7) 0) (h13:AK e0 13= .R (h.length+8) 0)
include h5 h7 h8 h9 h10 h11 h12 h13
theorem cW(s s':KN)(l:Nat)(n:Int)(hl:l<=12)(h0:0<=n)(h1:(n+1)*2^l<=4096)(hS:S.length<=2^40)(a7:s.m.wf)(O:s.step S b0 (l,n)=some s')(J:List Row):
  ∃J2,Ky Tryz.prog BK (h.length+11) [.v (BV l n)] (D3 h fl a0 b0 L0 R0 S e0 (.v .nilm) (false:D) s .ready++J) true (D3 h fl a0 b0 L0 R0 S e0 (.v .nilm) (false:D) s' .ready++(J++J2)):=by
 refine⟨[.cells [l,n]],CK (e0:=e0) (ps:=[26]) (asg:=(lG 179 0)) (body:=(lG 179 1000)) (by simp[D3]) rfl ?_⟩;have q1:=Oa l n hl h0 h1;obtain⟨m,L,R,i⟩:=s;unfold KN.step at O;simp only at O a7;cases hc:S[i]? with
 |none=>rw[hc]at O;cases O
 |some c=>
  rw[hc]at O;simp only at O;have hi:i <S.length:=(rZ.1 hc).1;by_cases c1:1 <c
  .rw[if_pos c1]at O;cases O
  rw[if_neg c1]at O;have hI:¬(S.length:Int)<=i:=AE;have w1:IntKind.i64.wrap ((i:Int)+1)=((i+1:Nat):Int):=by rw[AS AE AE];omega
  have a6:=OM.wf_set a7 ((l:Int),n) none;have a2:=Ga ((l:Int),n) (m.set ((l:Int),n) none).E;have a8:ND (m.set ((l:Int),n) none).E ((l:Int),n)=some none:=by have:=OM.get_set m ((l:Int),n) none ((l:Int),n);rw[if_pos rfl]at this;exact this
  rw[a8]at a2;obtain⟨j,hj⟩:∃j,(m.set ((l:Int),n) none).E.findIdx? (λx=>x.1==((l:Int),n))=some j:=by
   cases hx:(m.set ((l:Int),n) none).E.findIdx? (λx=>x.1==((l:Int),n))with
   |none=>rw[hx]at a2;cases a2
   |some j=>exact⟨j,rfl⟩
  have ra:=λH q t bk hq ht hb e f10 f14 K hK=> @Yc m (l:Int) n H q t bk hq ht hb e f10 f14 K hK;have rb:=λv tl H q t bk sd hq ht hb b3 b2 e f10 f14 f15 K hK=> @cj (m.set ((l:Int),n) none) (l:Int) n v tl H q t bk sd hq ht hb b3 b2 a6 j hj e f10 f14 f15 K hK;clear a2 a8 hj a7 a6;generalize hf:n*(2:Int)^l=f at*;generalize (l:Int)=LL at*;obtain⟨m1,b1⟩:∃m1,m.set (LL,n) none=m1:=⟨_,rfl⟩;rw[b1]at O ra rb;simp[BV]at q1;simp only[Zw,D3,BV,E5,BG 179 0,BG 179 1000,AB 179 5];simp[AQ];simp only[AB 179 6];simp[h13,h7,AM,hI,hc,c1,AD];simp only[AB 179 8,Aa,AB 179 9];simp;refine⟨_,_,⟨rfl,rfl⟩,_,q1,?_⟩;simp[h5];cases fl<;>by_cases c2:b0 <f
  all_goals
   simp at h11 h12;simp[c2,AB 179 10,h12];refine ra _ (h.length+4) (h.length+5) _ ?_ ?_ ?_ _ ?_ rfl _ ?_
  all_goals try (simp;done)
  all_goals try (simp[h10];done)
  .intro e' G;have g7:=G 7 AE;have g8:=G 8 AE;have g9:=G 9 AE;have U:=G 10 AE;have W:=G 13 AE;have Z:=G 14 AE;have a1:=G 15 AE;simp[h8,h9,h10,AK]at g7 g8 g9 U W Z a1;clear G ra;simp only[AB 179 12];simp[g7,g8,g9,U,W,Z,a1,hc];by_cases c3:c=1
   .subst c3;simp[c2,KN.side]at O;cases R with
    |nil=>simp at O
    |cons v tl=>
     simp at O;simp only[AB 179 13];simp;rw[Bj];refine rb v tl _ (h.length+4) (h.length+5) _ _ ?_ ?_ ?_ ?_ ?_ _ rfl rfl rfl _ ?_
     all_goals try (simp;done)
     all_goals try (simp[AM];done)
     intro e2 h2;simp at h2;simp only[AB 179 16];simp[h2,w1,BH];subst O;simp[AQ,AM]
   .simp[c3]at O ⊢;simp only[AB 179 16];simp[w1,BH];subst O;simp[AQ]
  .intro e' G;have g7:=G 7 AE;have g8:=G 8 AE;have g9:=G 9 AE;have U:=G 10 AE;have W:=G 13 AE;have Z:=G 14 AE;have a1:=G 15 AE;simp[h8,h9,h10,h11,AK]at g7 g8 g9 U W Z a1;clear G ra;simp only[AB 179 12];simp[g7,g8,g9,U,W,Z,a1,hc];by_cases c3:c=1
   .subst c3;simp[c2,KN.side]at O;cases L with
    |nil=>simp at O
    |cons v tl=>
     simp at O;simp only[AB 179 13];simp;rw[Bj];refine rb v tl _ (h.length+4) (h.length+5) _ _ ?_ ?_ ?_ ?_ ?_ _ rfl rfl rfl _ ?_
     all_goals try (simp;done)
     all_goals try (simp[AM];done)
     intro e2 h2;simp at h2;simp only[AB 179 16];simp[h2,w1,BH];subst O;simp[AQ,AM]
   .simp[c3]at O ⊢;simp only[AB 179 16];simp[w1,BH];subst O;simp[AQ]
  .intro e' G;have g7:=G 7 AE;have g8:=G 8 AE;have g9:=G 9 AE;have U:=G 10 AE;have W:=G 13 AE;have Z:=G 14 AE;have a1:=G 15 AE;simp[h8,h9,h10,AK]at g7 g8 g9 U W Z a1;clear G ra;simp only[AB 179 12];simp[g7,g8,g9,U,W,Z,a1,hc];by_cases c3:c=1
   .subst c3;simp[c2,KN.side]at O;cases R with
    |nil=>simp at O
    |cons v tl=>
     simp at O;simp only[AB 179 13];simp;rw[Bj];refine rb v tl _ (h.length+4) (h.length+5) _ _ ?_ ?_ ?_ ?_ ?_ _ rfl rfl rfl _ ?_
     all_goals try (simp;done)
     all_goals try (simp[AM];done)
     intro e2 h2;simp at h2;simp only[AB 179 16];simp[h2,w1,BH];subst O;simp[AQ,AM]
   .simp[c3]at O ⊢;simp only[AB 179 16];simp[w1,BH];subst O;simp[AQ]
  .intro e' G;have g7:=G 7 AE;have g8:=G 8 AE;have g9:=G 9 AE;have U:=G 10 AE;have W:=G 13 AE;have Z:=G 14 AE;have a1:=G 15 AE;simp[h8,h9,h10,h11,AK]at g7 g8 g9 U W Z a1;clear G ra;simp only[AB 179 12];simp[g7,g8,g9,U,W,Z,a1,hc];by_cases c3:c=1
   .subst c3;simp[c2,KN.side]at O;cases L with
    |nil=>simp at O
    |cons v tl=>
     simp at O;simp only[AB 179 13];simp;rw[Bj];refine rb v tl _ (h.length+4) (h.length+5) _ _ ?_ ?_ ?_ ?_ ?_ _ rfl rfl rfl _ ?_
     all_goals try (simp;done)
     all_goals try (simp[AM];done)
     intro e2 h2;simp at h2;simp only[AB 179 16];simp[h2,w1,BH];subst O;simp[AQ,AM]
   .simp[c3]at O ⊢;simp only[AB 179 16];simp[w1,BH];subst O;simp[AQ]
theorem cU(s:KN)(l:Nat)(n:Int)(hl:l<=12)(h0:0<=n)(h1:(n+1)*2^l<=4096)(hS:S.length<=2^40)(hs:s.step S b0 (l,n)=none):
  ∃s':KN,∀J,∃J2,Ky Tryz.prog BK (h.length+11) [.v (BV l n)] (D3 h fl a0 b0 L0 R0 S e0 (.v .nilm) (false:D) s .ready++J) false (D3 h fl a0 b0 L0 R0 S e0 (.v .nilm) (false:D) s' (.done none)++(J++J2)):=by
 have q1:=Oa l n hl h0 h1;obtain⟨m,L,R,i⟩:=s;unfold KN.step at hs;simp only at hs;cases hc:S[i]? with
 |none=>
  refine⟨⟨m,L,R,i⟩,λJ=>⟨[.cells [l,n]],CK (e0:=e0) (ps:=[26]) (asg:=(lG 179 0)) (body:=(lG 179 1000)) (by simp[D3]) rfl ?_⟩⟩;have hi:S.length<=i:=List.getElem?_eq_none_iff.1 hc;have hI:(S.length:Int)<=i:=AE;simp only[Zw,D3,BV,E5,BG 179 0,BG 179 1000,AB 179 5];simp[AQ];simp only[AB 179 6];simp[h13,h7,AM,hI];simp only[AB 179 7];simp[h8,h9,AQ,AA,BH]
 |some c=>
  rw[hc]at hs;simp only at hs;have hi:i <S.length:=(rZ.1 hc).1;have hI:¬(S.length:Int)<=i:=AE;by_cases c1:1 <c
  .refine⟨⟨m,L,R,i⟩,λJ=>⟨[.cells [l,n]],CK (e0:=e0) (ps:=[26]) (asg:=(lG 179 0)) (body:=(lG 179 1000)) (by simp[D3]) rfl ?_⟩⟩;simp only[Zw,D3,BV,E5,BG 179 0,BG 179 1000,AB 179 5];simp[AQ];simp only[AB 179 6];simp[h13,h7,AM,hI,hc,c1];simp only[AB 179 7];simp[h8,h9,AQ,AA,BH]
  rw[if_neg c1]at hs;have c3:c=1:=by apply Classical.byContradiction;intro h;rw[if_neg h]at hs;cases hs
  subst c3;rw[if_pos rfl]at hs;refine⟨⟨m.set ((l:Int),n) none,L,R,i⟩,λJ=>⟨[.cells [l,n]],CK (e0:=e0) (ps:=[26]) (asg:=(lG 179 0)) (body:=(lG 179 1000)) (by simp[D3]) rfl ?_⟩⟩;have ra:=λH q t bk hq ht hb e f10 f14 K hK=> @Yc m (l:Int) n H q t bk hq ht hb e f10 f14 K hK;generalize hf:n*(2:Int)^l=f at*;generalize (l:Int)=LL at*;obtain⟨m1,a2⟩:∃m1,m.set (LL,n) none=m1:=⟨_,rfl⟩;rw[a2]at hs ra ⊢;simp[BV]at q1;simp only[Zw,D3,BV,E5,BG 179 0,BG 179 1000,AB 179 5];simp[AQ];simp only[AB 179 6];simp[h13,h7,AM,hI,hc,c1,AD];simp only[AB 179 8,Aa,AB 179 9];simp;refine⟨_,_,⟨rfl,rfl⟩,_,q1,?_⟩;simp[h5];have a1:(if b0 <f then R else L)=[]:=by
   simp only[KN.side]at hs;by_cases c2:b0 <f<;>simp[c2]at hs ⊢
   .cases R with
    |nil=>rfl
    |cons v t=>simp at hs
   .cases L with
    |nil=>rfl
    |cons v t=>simp at hs
  clear hs;cases fl<;>by_cases c2:b0 <f
  all_goals
   simp[c2]at a1;subst a1;simp at h11 h12;simp[c2,AB 179 10,h12];refine ra _ (h.length+4) (h.length+5) _ ?_ ?_ ?_ _ ?_ rfl _ ?_
  all_goals try (simp;done)
  all_goals try (simp[h10];done)
  .intro e' G;have g7:=G 7 AE;have g8:=G 8 AE;have g9:=G 9 AE;have O:=G 10 AE;have U:=G 13 AE;have W:=G 14 AE;have Z:=G 15 AE;simp[h8,h9,h10,AK]at g7 g8 g9 O U W Z;clear G ra;simp only[AB 179 12];simp[g7,g8,g9,O,U,W,Z,hc];simp only[AB 179 13];simp;simp only[AB 179 14];simp[AQ,AA,BH]
  .intro e' G;have g7:=G 7 AE;have g8:=G 8 AE;have g9:=G 9 AE;have O:=G 10 AE;have U:=G 13 AE;have W:=G 14 AE;have Z:=G 15 AE;simp[h8,h9,h10,h11,AK]at g7 g8 g9 O U W Z;clear G ra;simp only[AB 179 12];simp[g7,g8,g9,O,U,W,Z,hc];simp only[AB 179 13];simp;simp only[AB 179 14];simp[AQ,AA,BH]
  .intro e' G;have g7:=G 7 AE;have g8:=G 8 AE;have g9:=G 9 AE;have O:=G 10 AE;have U:=G 13 AE;have W:=G 14 AE;have Z:=G 15 AE;simp[h8,h9,h10,AK]at g7 g8 g9 O U W Z;clear G ra;simp only[AB 179 12];simp[g7,g8,g9,O,U,W,Z,hc];simp only[AB 179 13];simp;simp only[AB 179 14];simp[AQ,AA,BH]
  .intro e' G;have g7:=G 7 AE;have g8:=G 8 AE;have g9:=G 9 AE;have O:=G 10 AE;have U:=G 13 AE;have W:=G 14 AE;have Z:=G 15 AE;simp[h8,h9,h10,h11,AK]at g7 g8 g9 O U W Z;clear G ra;simp only[AB 179 12];simp[g7,g8,g9,O,U,W,Z,hc];simp only[AB 179 13];simp;simp only[AB 179 14];simp[AQ,AA,BH]
end
end
def MW(m:OM)(l:List Rgt):OM:=l.foldl (λm r=>m.set (0,r.file) (some (CX r.file (A7 r)))) m
def gL(N:OM)(rs:List Rgt)(hn:rs.length<=2^20)(hb:∀r∈rs,isB (A7 r)/\(A7 r).length<=2^39)(H:List Row)(q t:Nat)(hq:H[q]?=some N.row)(ht:H[t]?=some (.cells [.mr q]))(b6:q≠t)(d7 d8 d9 O U W:D)(Q:AExit->St->Prop)(hQ:∀e J,AK e 7=d7->AK e 8=d8->AK e 9=d9->AK e 10= .R t 0->AK e 11=O->AK e 12=U->AK e 13=W->Q (.exit 2) ⟨e,H.set q (MW N rs).row++J⟩):
  AX (.loop (lG 179 1)) Q ⟨[(7,d7),(8,d8),(9,d9),(10,.R t 0),(11,O),(12,U),(13,W),(76,(rs.map GA:D)),(77,(rs.length:D)),(78,((0:Nat):D))],H⟩:=by
 have a6:q <H.length:=Cs hq;have a7:∀(y z:Row)(Z:List Row),(H.set q y++Z).set q z=H.set q z++Z:=λy z Z=>by rw[uC _ _ (by rw[so];exact a6),tm]
 have b0:∀(y:Row)(Z:List Row),(H.set q y++Z)[q]?=some y:=λy Z=>AU Z (CY hq);have b3:∀(y:Row)(Z:List Row),(H.set q y++Z)[t]?=some (.cells [.mr q]):=λy Z=>AU Z (by rw[sG b6];exact ht);refine Ag rs.length (λk s=>∃J,s=⟨[(7,d7),(8,d8),(9,d9),(10,.R t 0),(11,O),(12,U),(13,W),(76,(rs.map GA:D)),(77,(rs.length:D)),(78,(k:D))],H.set q (MW N (rs.take k)).row++J⟩) ⟨[],by simp only[List.take_zero,sk];obtain⟨g1,g2⟩:=rZ.1 hq;rw[show MW N []=N from rfl,<-g2,vM]⟩ ?_
 rintro k s hk ⟨J,rfl⟩;simp only[Zw,BG 179 1,AB 179 18];simp;by_cases a1:k <rs.length
 .obtain⟨r,hr⟩:∃r,rs[k]?=some r:=⟨_,rW a1⟩;obtain⟨b1,b2⟩:=hb r (rY hr);have w1:=Bt k;have b9:MW N (rs.take (k+1))=(MW N (rs.take k)).set (0,r.file) (some (CX r.file (A7 r))):=by rw[rx,hr];unfold MW;rw[tq];rfl
  have q1:=eT r.file (A7 r) b1 b2;rw[b9];generalize MW N (rs.take k)=m at*;generalize c2:CX r.file (A7 r)=lv at*;have b5:=Jd 0 r.file m.E;have a8:∀(Z:List Row),(H.set q m.row++Z)[q]?=some (.map (m.E.map FS) m.st m.ck):=λZ=>b0 _ Z;have a2:=b3 m.row;have G:=λz Z=>a7 m.row z Z;generalize c1:H.set q m.row=c0 at*;simp[AM]at q1;rw[CF,AD];simp only[AB 179 19];simp[hr,GA,AQ,AM];simp only[Aa,AB 179 20];simp[a2,AQ];refine⟨_,_,⟨rfl,rfl⟩,_,q1,?_⟩;simp[a8,b5,Be,V.eqL,V.eq1];cases hi:m.E.findIdx? (λx=>x.fst==(0,r.file))with
  |none=>
   rw[OM.row_new (some lv) hi];simp[G,AB 179 21,w1,a1,FS,Ea]
  |some i=>
   rw[OM.row_old (some lv) hi];simp[G,AB 179 21,w1,a1,FS,Ea]
 .have b4:k=rs.length:=AE;subst b4;rw[Bj,AN,sE];exact hQ _ _ rfl rfl rfl rfl rfl rfl rfl
def KN.run(S:List Int)(b:Int):KN->List (Nat×Int)->Option KN
 |s,[]=>some s
 |s,q::B=>match s.step S b q with|none=>none|some s'=>KN.run S b s' B
def KN.run_cases(S:List Int)(b:Int):∀(B:List (Nat×Int))(s:KN),
  (∃f:Nat->KN,f 0=s/\(∀t q,B[t]?=some q->(f t).step S b q=some (f (t+1)))/\KN.run S b s B=some (f B.length))\/
  (KN.run S b s B=none/\∃(f:Nat->KN)(T:Nat),f 0=s/\T <B.length/\(∀t q,B[t]?=some q->t <T->(f t).step S b q=some (f (t+1)))/\∀q,B[T]?=some q->(f T).step S b q=none)
 |[],s=> .inl ⟨λ_=>s,rfl,Ac,rfl⟩
 |q::B,s=>by
  cases hq:s.step S b q with
  |none=>exact .inr ⟨by simp[KN.run,hq],λ_=>s,0,rfl,Ac,AE,by simpa using hq⟩
  |some s'=>
   rcases KN.run_cases S b B s' with ⟨f,G,J,N⟩|⟨N,f,T,G,U,J,O⟩
   .refine .inl ⟨λk=>match k with|0=>s|k+1=>f k,rfl,λt x hx=>?_,by simp[KN.run,hq,N]⟩;cases t with
    |zero=>
     simp at hx;subst hx;simp[hq,G]
    |succ t=>exact J t x (by simpa using hx)
   .refine .inr ⟨by simp[KN.run,hq,N],λk=>match k with|0=>s|k+1=>f k,T+1,rfl,by simpa using U,λt x hx W=>?_,λx hx=>O x (by simpa using hx)⟩;cases t with
    |zero=>
     simp at hx;subst hx;simp[hq,G]
    |succ t=>exact J t x (by simpa using hx) AE
def KN.step_wf{S:List Int}{b:Int}{s s':KN}{q:Nat×Int}(h:s.m.wf)(G:s.step S b q=some s'):s'.m.wf:=by
 unfold KN.step at G;cases hc:S[s.i]? with
 |none=>rw[hc]at G;cases G
 |some c=>
  rw[hc]at G;simp only at G;split at G
  .cases G
  .split at G
   .split at G
    .cases G
    .simp at G;subst G;exact OM.wf_set (OM.wf_set h _ _) _ _
   .simp at G;subst G;exact OM.wf_set h _ _
def OM.nil:OM:=⟨[],[],0⟩
def OM.nil_wf:OM.nil.wf:=⟨rfl,rfl⟩
def KN.ok(S:List Int)(s:KN):Bool:=decide ((s.i:Int)=S.length)&&(decide ((s.L.length:Int)=0)&&decide ((s.R.length:Int)=0))
section
variable (h:List Row) (fl:Bool) (a b:Int) (hab:a<=b) (L R S:List Int) (hS:S.length<=2^40) (E:CC)
 (hq:Dn ((Opd.t 25 false).ev E)=some (301,[.R (h.length+9) 0,.R (h.length+10) 0]))
 (h5:AK (FI E) 5= .R h.length 0) (h7:AK (FI E) 7= .R (h.length+1) 0) (h8:AK (FI E) 8= .R (h.length+2) 0) (h9:AK (FI E) 9= .R (h.length+3) 0) (h10:AK (FI E) 10= .R (h.length+5) 0)
 (h11:AK (FI E) 11= .R (if fl then h.length+7 else h.length+6) 0) (h12:AK (FI E) 12= .R (if fl then h.length+6 else h.length+7) 0) (h13:AK (FI E) 13= .R (h.length+8) 0)
 (L0 R0:List Int) {H:List Row} (hH:H++[A5 Tryz.prog BK .ready (FI E) [26] (lG 179 0) (lG 179 1000)]=D3 h fl a b L0 R0 S (FI E) (.v .nilm) (.v (.bool false)) ⟨.nil,L,R,0⟩ .ready) {Q:AExit->St->Prop}
include hab hS hq h5 h7 h8 h9 h10 h11 h12 h13 hH
theorem Zc(hN:KN.run S b ⟨.nil,L,R,0⟩ (BA a b 12 0)=none)(hQ:∀(s:KN)J,Q .ret ⟨E,(D3 h fl a b L0 R0 S (FI E) (.v .nilm) (false:D) s (.done none)++J).set (h.length+11) .dead⟩):AX (.rangeF (.t 25 false) [26] (lG 179 0) (lG 179 1000)) Q ⟨E,H⟩:=by
 rcases KN.run_cases S b (BA a b 12 0) ⟨.nil,L,R,0⟩with ⟨f,_,_,hr⟩|⟨_,f,T,f0,hT,hf,hF⟩
 .rw[hN]at hr;cases hr
 have N:H.length=h.length+11:=by have:=congrArg List.length hH;simp[D3]at this;omega
 have W:∀t,t<=T->(f t).m.wf:=by
  intro t;induction t with
  |zero=>intro _;rw[f0];exact OM.nil_wf
  |succ t ih=>
   intro ht;obtain⟨q,hq⟩:∃q,(BA a b 12 0)[t]?=some q:=⟨_,rW AE⟩;exact KN.step_wf (ih AE) (hf t q hq AE)
 obtain⟨Z,G⟩:∃q,(BA a b 12 0)[T]?=some q:=⟨_,rW hT⟩;obtain⟨b1,b2,b3,_⟩:=Dx (Int.le_refl 0) (rY G);obtain⟨s',U⟩:=cU h fl a b L0 R0 S (FI E) h5 h7 h8 h9 h10 h11 h12 h13 (f T) Z.1 Z.2 b1 b2 (by simpa using b3) hS (hF Z G);obtain⟨J',O⟩:=dW a b hab (λk=>D3 h fl a b L0 R0 S (FI E) (.v .nilm) (false:D) (f k) .ready) (D3 h fl a b L0 R0 S (FI E) (.v .nilm) (false:D) s' (.done none)) (h.length+12) (h.length+9) (h.length+10) (h.length+11) T
  (λk=>by simp[D3]) (λk=>by simp[D3]) (λk=>by simp[D3])
  (λt q hq ht J=>by obtain⟨g1,g2,g3,_⟩:=Dx (Int.le_refl 0) (rY hq);exact cW h fl a b L0 R0 S (FI E) h5 h7 h8 h9 h10 h11 h12 h13 (f t) (f (t+1)) q.1 q.2 g1 g2 (by simpa using g3) hS (W t AE) (hf t q hq ht) J)
  hT (λq hq J=>by rw[G]at hq;obtain rfl:=tR hq;exact U J)
 simp only[f0]at O;rw[<-hH]at O;exact Dp (h.length+11) N 301 _ [] _ _ (.done none) hq rfl O (by simp[D3]) (hQ s' J')
theorem cb{s':KN}(hN:KN.run S b ⟨.nil,L,R,0⟩ (BA a b 12 0)=some s')(hQ:s'.m.wf->∀J,Q .normal ⟨E,(D3 h fl a b L0 R0 S (FI E) (.v .nilm) (false:D) s' .ready++J).set (h.length+11) .dead⟩):AX (.rangeF (.t 25 false) [26] (lG 179 0) (lG 179 1000)) Q ⟨E,H⟩:=by
 have hc:=KN.run_cases S b (BA a b 12 0) ⟨.nil,L,R,0⟩;rw[hN]at hc;obtain⟨f,U,W,hr⟩:=hc.resolve_right (λh=>by cases h.1);obtain rfl:=tR hr;have G:H.length=h.length+11:=by have:=congrArg List.length hH;simp[D3]at this;omega
 have N:∀t,t<=(BA a b 12 0).length->(f t).m.wf:=by
  intro t;induction t with
  |zero=>intro _;rw[U];exact OM.nil_wf
  |succ t ih=>
   intro ht;obtain⟨q,hq⟩:∃q,(BA a b 12 0)[t]?=some q:=⟨_,rW AE⟩;exact KN.step_wf (ih AE) (W t q hq)
 obtain⟨Z,O⟩:=dX a b hab (λk=>D3 h fl a b L0 R0 S (FI E) (.v .nilm) (false:D) (f k) .ready) (h.length+12) (h.length+9) (h.length+10) (h.length+11)
  (λk=>by simp[D3]) (λk=>by simp[D3]) (λk=>by simp[D3])
  (λt q hq J=>by obtain⟨g1,g2,g3,_⟩:=Dx (Int.le_refl 0) (rY hq);exact cW h fl a b L0 R0 S (FI E) h5 h7 h8 h9 h10 h11 h12 h13 (f t) (f (t+1)) q.1 q.2 g1 g2 (by simpa using g3) hS (N t (by have:=(rZ.1 hq).1;omega)) (W t q hq) J)
 simp only[U]at O;rw[<-hH]at O;exact Dp (h.length+11) G 301 _ [] _ _ .ready hq rfl O (by simp[D3]) (hQ (N _ (ri _)) Z)
end
theorem fA(rs:List Rgt)(h:List Row)(fl:Bool)(a b:Int)(hab:a<=b)(L R S:List Int)(hS:S.length<=2^40)(G:KN.run S b ⟨.nil,L,R,0⟩ (BA a b 12 0)=none)(Q:AExit->St->Prop)(N:∀e J,AK e 8= .R (h.length+2) 0->AK e 9= .R (h.length+3) 0->Q .ret ⟨e,h++([.cells [b],.cells [.v (AM .u64 L),.v (AM .u64 R),.v (AM .u8 S)],.cells [.v .nilm],.cells [false]]++J)⟩):
  AX OB Q ⟨[(0,(a:D)),(2,(rs.map GA:D)),(5,.R h.length 0),(7,.R (h.length+1) 0),(8,.R (h.length+2) 0),(9,.R (h.length+3) 0),(10,.R (h.length+5) 0),(11,.R (if fl then h.length+7 else h.length+6) 0),(12,.R (if fl then h.length+6 else h.length+7) 0)],
   h++[.cells [b],.cells [.v (AM .u64 L),.v (AM .u64 R),.v (AM .u8 S)],.cells [.v .nilm],.cells [false],OM.nil.row,.cells [.mr (h.length+4)],.cells [.v (AM .u64 (if fl then R else L))],.cells [.v (AM .u64 (if fl then L else R))]]⟩:=by
 have O:=λZ=>Zp a b (h++Z);simp only[OB,AH,AJ,AY,AB 179 3,AB 179 4];simp[AQ];refine⟨_,_,(O _),?_⟩;simp;refine Zc h fl a b hab L R S hS _ ?_ ?_ ?_ ?_ ?_ ?_ ?_ ?_ ?_ L R ?_ G ?_
 all_goals try rfl
 all_goals try (simp[D3];done)
 intro s J;simp[D3];exact N _ (s.m.row::_) rfl rfl
section
def Wi(a b:Int):Int:=JO [98,108,111,99,107] [IntKind.i64.wrap a,IntKind.i64.wrap b]
abbrev KL:=List ((Nat×Int)×Int)
def Ch(K:KL)(q:Nat×Int):Option Int:=(K.find? λx=>x.1==q).map (·.2)
def Hj(K:KL)(l:Nat)(n:Int):Bool:=K.any λx=>decide (n*2^l<=x.1.2*2^x.1.1)&&decide (x.1.2*2^x.1.1 <n*2^l+2^l)
def MY(K:KL):Nat->Int->Option Int
 |0,n=>Ch K (0,n)
 |l+1,n=>match Ch K (l+1,n)with
  |some h=>some h
  |none=>if Hj K (l+1) n then some (Wi ((MY K l (2*n)).getD 0) ((MY K l (2*n+1)).getD 0)) else none
def TY{K:KL}{q:Nat×Int}{h:Int}(G:Ch K q=some h):(q,h)∈K:=by
 unfold Ch at G;rw[rt]at G;obtain⟨x,J,h2⟩:=G;have N:x.1=q:=by simpa using List.find?_some J
 rw[<-N,<-h2];exact List.mem_of_find?_eq_some J
def I8{K:KL}{q:Nat×Int}(G:Ch K q=none):∀x∈K,x.1≠q:=by unfold Ch at G;rw[Option.map_eq_none_iff,tb]at G;intro x hx h;exact G x hx (by simp[h])
variable {l:Nat}
def Ge{K:KL}{n:Int}:Hj K l n=true↔∃x∈K,n*2^l<=x.1.2*2^x.1.1/\x.1.2*2^x.1.1 <n*2^l+2^l:=by unfold Hj;rw[tX];simp
def kin(l:Nat)(n:Int)(q:Nat×Int):Prop:=
 (n*2^l<=q.2*2^q.1/\(q.2+1)*2^q.1<=(n+1)*2^l)\/(q.2+1)*2^q.1<=n*2^l\/(n+1)*2^l<=q.2*2^q.1
def RU{n:Int}{q:Nat×Int}(G:n*2^l<=q.2*2^q.1)(h2:(q.2+1)*2^q.1<=(n+1)*2^l):q.1<=l/\(q.1=l->q=(l,n)):=by
 obtain⟨k,m⟩:=q;simp only at G h2 ⊢;rw[Kx]at h2;rw[Kx]at h2;have W:(2:Int)^k<=2^l:=AE;have N:k<=l:=by
  by_cases U:k<=l
  .exact U
  .exfalso;have:(2:Nat)^l <2^k:=Nat.pow_lt_pow_right Ah AE;have:(2:Int)^l <2^k:=by exact_mod_cast this
   omega
 refine⟨N,?_⟩;rintro rfl;have J:(0:Int) <2^k:=sR Ah;have O:m*(2:Int)^k<=n*2^k:=AE;have h6:=Int.le_of_mul_le_mul_right O J;have Z:=Int.le_of_mul_le_mul_right G J;have:m=n:=AE;rw[this]
def VM{n:Int}{q:Nat×Int}(h:kin (l+1) n q)(G:q≠(l+1,n)):kin l (2*n) q/\kin l (2*n+1) q:=by
 have e0:(2:Int)^(l+1)=2*2^l:=by rw[sb,sX]
 have hp:(1:Int)<=2^l:=sR Ah;have Z:(n+1)*2^(l+1)=(2*n+1)*2^l+2^l:=by rw[e0,<-si,<-Kx];congr 1;omega
 have e2:(2*n+1+1)*(2:Int)^l=(2*n+1)*2^l+2^l:=Kx _ _;have e3:(2*n+1)*(2:Int)^l=2*n*2^l+2^l:=Kx _ _;have e4:n*2^(l+1)=2*n*2^l:=by rw[e0,<-si,sX n 2]
 unfold kin at h ⊢;rcases h with ⟨J,h2⟩|h|h
 .obtain⟨O,N⟩:=RU J h2;obtain⟨k,m⟩:=q;simp only at J h2 O N ⊢;have h5:k<=l:=by
   by_cases U:k=l+1
   .exact absurd (N U) G
   .omega
  have h6:(2:Int)^l=2^(l-k)*2^k:=by rw[<-Int.pow_add];congr 1;omega
  have W:(0:Int) <2^k:=sR Ah;have h7:(m+1)*2^k<=(2*n+1)*2^l\/(2*n+1)*2^l<=m*2^k:=by
   rw[h6,<-si];generalize (2*n+1)*2^(l-k)=c;by_cases hc:m <c
   .exact .inl (tJ AE AE)
   .exact .inr (tJ AE AE)
  omega
 .omega
 .omega
def Tc(K:KL)(l:Nat)(n:Int):Hj K (l+1) n=(Hj K l (2*n)||Hj K l (2*n+1)):=by
 have e0:(2:Int)^(l+1)=2*2^l:=by rw[sb,sX]
 have U:(1:Int)<=2^l:=sR Ah;have N:(2*n+1)*(2:Int)^l=2*n*2^l+2^l:=Kx _ _;have O:n*2^(l+1)=2*n*2^l:=by rw[e0,<-si,sX n 2]
 rw[tC,ta,Ge,Ge,Ge]
 constructor
 .rintro⟨x,hx,G,h2⟩;by_cases J:x.1.2*2^x.1.1 <2*n*2^l+2^l
  .exact .inl ⟨x,hx,AE,J⟩
  .exact .inr ⟨x,hx,AE,AE⟩
 .rintro(⟨x,hx,G,h2⟩|⟨x,hx,G,h2⟩)
  .exact⟨x,hx,AE,AE⟩
  .exact⟨x,hx,AE,AE⟩
def XV{K:KL}{g:Int×Int->Option (Option Int)}(H1:∀(l:Nat)n h,Ch K (l,n)=some h↔g ((l:Int),n)=some (some h))(H2:∀(l:Nat)n,g ((l:Int),n)=some none->Hj K l n=false):
  ∀(l:Nat)(n:Int),(∀x∈K,kin l n x.1)->MY K l n=M1 g l n/\(MY K l n).isSome=Hj K l n:=by
 have J:∀{l:Nat}{n h:Int},Ch K (l,n)=some h->Hj K l n=true:=by intro l n h G;have hp:(1:Int)<=2^l:=sR Ah;exact Ge.2 ⟨_,TY G,Int.le_refl _,by simp only;omega⟩
 intro l;induction l with
 |zero=>
  intro n W;simp only[MY,M1];have N:=H1 0 n;simp only[Int.natCast_zero]at N;cases G:Ch K (0,n)with
  |some h=>
   rw[(N h).1 G];exact⟨rfl,by rw[J G];rfl⟩
  |none=>
   constructor
   .cases hg:g (0,n)with
    |none=>rfl
    |some o=>
     cases o with
     |none=>rfl
     |some h=>rw[(N h).2 hg]at G;cases G
   .show false=_;rw[eq_comm,Bool.eq_false_iff];intro hk;obtain⟨x,hx,h2,h3⟩:=Ge.1 hk;have Z:=I8 G x hx;have a1:(1:Int)<=2^x.1.1:=sR Ah;have e1:=Kx x.1.2 (2^x.1.1);simp only[Int.pow_zero,Int.mul_one]at h2 h3;rcases W x hx with ⟨O,h5⟩|O|O
    .exact Z ((RU O h5).2 (Nat.le_zero.1 (RU O h5).1))
    .simp only[Int.pow_zero,Int.mul_one]at O;omega
    .simp only[Int.pow_zero,Int.mul_one]at O;omega
 |succ l ih=>
  intro n W;simp only[MY,M1];have N:=H1 (l+1) n;cases G:Ch K (l+1,n)with
  |some h=>
   rw[(N h).1 G];exact⟨rfl,by rw[J G];rfl⟩
  |none=>
   have U:=λx hx=>VM (W x hx) (I8 G x hx);obtain⟨i1,i2⟩:=ih (2*n) λx hx=>(U x hx).1;obtain⟨i3,i4⟩:=ih (2*n+1) λx hx=>(U x hx).2;cases hg:g (((l+1:Nat):Int),n)with
   |some o=>
    cases o with
    |some h=>rw[(N h).2 hg]at G;cases G
    |none=>rw[H2 _ _ hg];simp
   |none=>
    rw[Tc,<-i2,<-i4,<-i1,<-i3];cases MY K l (2*n)<;>cases MY K l (2*n+1)<;>simp[Eg,Wi]
def Ja(a b:Int):∀(l:Nat)(n:Int),0<=n->(BA a b l n).Pairwise (λx y=>(x.2+1)*2^x.1<=y.2*2^y.1)/\∀x∈BA a b l n,n*2^l<=x.2*2^x.1
 |0,n,h0=>by simp only[BA];split<;>simp
 |l+1,n,h0=>by
  have e0:(2:Int)^(l+1)=2*2^l:=by rw[sb,sX]
  have W:(1:Int)<=2^l:=sR Ah;have N:(2*n+1)*(2:Int)^l=2*n*2^l+2^l:=Kx _ _;have O:n*2^(l+1)=2*n*2^l:=by rw[e0,<-si,sX n 2]
  obtain⟨i1,i2⟩:=Ja a b l (2*n) AE;obtain⟨i3,G⟩:=Ja a b l (2*n+1) AE;simp only[BA];split
  .simp
  .split
   .simp
   .refine⟨tL.2 ⟨i1,i3,λx hx y J=>?_⟩,λx hx=>?_⟩
    .have U:=(Dx AE hx).2.2.1;have h2:=G y J;omega
    .rcases rp.1 hx with hx|hx
     .have:=i2 x hx;omega
     .have:=G x hx;omega
def KN.kl(S:List Int)(b:Int):KN->List (Nat×Int)->KL
 |_,[]=>[]
 |s,q::B=>match s.step S b q with
  |none=>[]
  |some s'=>(match s'.m.get (q.1,q.2)with|some (some v)=>[(q,v)]|_=>[])++KN.kl S b s' B
theorem KN.step_get{S:List Int}{b:Int}{s s':KN}{q:Nat×Int}(h:s.step S b q=some s'):∃o,∀k,s'.m.get k=if k=((q.1:Int),q.2) then some o else s.m.get k:=by
 unfold KN.step at h;cases hc:S[s.i]? with
 |none=>rw[hc]at h;cases h
 |some c=>
  rw[hc]at h;simp only at h;split at h
  .cases h
  .split at h
   .split at h
    .cases h
    .rename_i v t _;simp at h;subst h;refine⟨some v,λk=>?_⟩;simp only[OM.get_set];split<;>rfl
   .simp at h;subst h;exact⟨none,λk=>OM.get_set _ _ _ _⟩
def KN.kl_keys{S:List Int}{b:Int}:∀{B:List (Nat×Int)}{s:KN},∀x∈KN.kl S b s B,x.1∈B
 |[],_,x,hx=>by simp[KN.kl]at hx
 |q::B,s,x,hx=>by
  simp only[KN.kl]at hx;split at hx
  .cases hx
  .rcases rp.1 hx with hx|hx
   .split at hx
    .rw[rm.1 hx];exact uY
    .cases hx
   .exact th _ (KN.kl_keys x hx)
def Ke(K G:KL)(q:Nat×Int):Ch (K++G) q=(Ch K q).or (Ch G q):=by unfold Ch;rw[List.find?_append];cases K.find? (λx=>x.1==q)<;>rfl
def Gc{K:KL}{q:Nat×Int}(h:∀x∈K,x.1≠q):Ch K q=none:=by unfold Ch;rw[Option.map_eq_none_iff,tb];intro x hx G;exact h x hx (by simpa using G)
def KN.run_get{S:List Int}{b:Int}:∀{B:List (Nat×Int)}{s s':KN},B.Nodup->KN.run S b s B=some s'->∀(l:Nat)(n:Int),s'.m.get ((l:Int),n)=if (l,n)∈B then some (Ch (KN.kl S b s B) (l,n)) else s.m.get ((l:Int),n)
 |[],s,s',_,h,l,n=>by simp[KN.run]at h;subst h;simp
 |q::B,s,s',hB,h,l,n=>by
  simp only[KN.run]at h;cases hs:s.step S b q with
  |none=>rw[hs]at h;cases h
  |some s1=>
   rw[hs]at h;simp only at h;obtain⟨o,U⟩:=KN.step_get hs;have hq:q∉B:=(tj.1 hB).1;have ih:=KN.run_get (tj.1 hB).2 h l n;rw[ih];simp only[KN.kl,hs];rw[U (q.1,q.2),if_pos rfl,Ke];by_cases J:(l,n)∈B
   .have O:q≠(l,n):=λh=>hq (h▸J);have W:Ch (match (some o:Option (Option Int))with|some (some v)=>[(q,v)]|_=>[]) (l,n)=none:=Gc (by
     intro x hx;split at hx
     .rw[rm.1 hx];exact O
     .cases hx)
    rw[if_pos J,if_pos (th _ J),W,Option.none_or]
   .rw[if_neg J,U];by_cases N:q=(l,n)
    .subst N;rw[if_pos rfl,if_pos uY];have h2:Ch (KN.kl S b s1 B) (l,n)=none:=Gc λx hx N=>J (N▸KN.kl_keys x hx);rw[h2,Option.or_none];cases o<;>simp[Ch]
    .have Z:¬((l:Int),n)=((q.1:Int),q.2):=by intro G;apply N;obtain⟨q1,q2⟩:=q;simp at G ⊢;omega
     rw[if_neg Z,if_neg];intro G;rcases rj.1 G with G|G
     .exact N G.symm
     .exact J G
def Ou:∀{l:List Rgt}(_:l.Pairwise λa b=>a.file≠b.file)(m:OM)(j n:Int),(MW m l).get (j,n)=match (if j=0 then l.find? (λr=>r.file==n) else none)with|some r=>some (some (CX r.file (A7 r)))|none=>m.get (j,n)
 |[],_,m,j,n=>by simp[MW]
 |r::l,hp,m,j,n=>by
  have W:=Ou hp.of_cons (m.set (0,r.file) (some (CX r.file (A7 r)))) j n;show (MW (m.set (0,r.file) (some (CX r.file (A7 r)))) l).get (j,n)=_;rw[W,OM.get_set];by_cases G:j=0
  .subst G;simp only[if_true,List.find?_cons];by_cases h:r.file=n
   .subst h;have O:l.find? (λq=>q.file==r.file)=none:=by
     rw[tb];intro q U J;have N:q.file=r.file:=by simpa using J
     exact(uK hp U) N.symm
    rw[O];simp
   .have:(r.file==n)=false:=by simpa using h
    rw[this];cases l.find? (λr=>r.file==n)with
    |some q=>rfl
    |none=>simp[Ne.symm h]
  .have Z:¬(j,n)=((0:Int),r.file):=by simp[G]
   simp[G]
def LV(rs:List Rgt):KL:=rs.map λr=>((0,r.file),CX r.file (A7 r))
def VO(rs:List Rgt)(l:Nat)(n:Int):Ch (LV rs) (l,n)=(if (l:Int)=0 then rs.find? (λr=>r.file==n) else none).map λr=>CX r.file (A7 r):=by
 unfold Ch LV;rw[List.find?_map];by_cases G:l=0
 .subst G;have e:((λx:(Nat×Int)×Int=>x.1==(0,n)) ∘ λr:Rgt=>((0,r.file),CX r.file (A7 r)))=λr=>r.file==n:=by
   funext r
   simp only[Function.comp];rw[tC];simp
  rw[e];simp only[Int.natCast_zero,if_true];cases rs.find? (λr=>r.file==n)<;>rfl
 .have e:((λx:(Nat×Int)×Int=>x.1==(l,n)) ∘ λr:Rgt=>((0,r.file),CX r.file (A7 r)))=λ_=>false:=by
   funext r
   simp[Function.comp];intro h;exact absurd h.symm G
  rw[e,Bj];simp
def KK{a b:Int}{l:List Rgt}(h:Dr a b l=false):l.Pairwise (λx y=>x.file <y.file)/\∀r∈l,a<=r.file/\r.file<=b/\((A7 r).length:Int)<=65536:=by
 unfold Dr at h;rw[tD]at h;have Z:∀k r,l[k]?=some r->(a<=r.file/\r.file<=b/\((A7 r).length:Int)<=65536)/\EP l r k=false:=by intro k r O;have G:=h k (sM.2 (rZ.1 O).1);rw[Ct,O]at G;simp only[ta,decide_eq_true_eq,not_or]at G;obtain⟨h2,W,h4,h5⟩:=G;exact⟨⟨AE,AE,AE⟩,by simpa using h4⟩
 constructor
 .have N:∀(i:Nat)r q,l[i]?=some r->l[i+1]?=some q->r.file <q.file:=by intro i r q G h2;have W:=(Z _ _ h2).2;simp only[EP,G,decide_eq_false_iff_not]at W;omega
  have J:∀(d i:Nat)r q,l[i]?=some r->l[i+1+d]?=some q->r.file <q.file:=by
   intro d;induction d with
   |zero=>exact λi r q G h2=>N i r q G h2
   |succ d ih=>
    intro i r q G h2;have a2:=(rZ.1 h2).1;obtain⟨p,hp⟩:∃p,l[i+1+d]?=some p:=⟨_,rW AE⟩;have:=ih i r p G hp;have:=N (i+1+d) p q hp h2;omega
  rw[List.pairwise_iff_getElem];intro i j hi hj a1;exact J (j-i-1) i _ _ (rW hi) (by rw[show i+1+(j-i-1)=j by omega];exact rW hj)
 .intro r O;obtain⟨k,U⟩:=uQ O;exact(Z k r U).1
def XB(a b:Int)(l:Nat)(n:Int)(G:0<=n):(BA a b l n).Nodup:=by refine(Ja a b l n G).1.imp ?_;intro x y h J;subst J;have N:(1:Int)<=2^x.1:=sR Ah;have:=Kx x.2 (2^x.1);omega
def ct{α:Type}{R:α->α->Prop}{l:List α}(h:l.Pairwise R){x y:α}(hx:x∈l)(Z:y∈l)(U:x≠y):R x y\/R y x:=by
 obtain⟨i,hi⟩:=uQ hx;obtain⟨j,W⟩:=uQ Z;obtain⟨N,G⟩:=rZ.1 hi;obtain⟨O,J⟩:=rZ.1 W;rw[List.pairwise_iff_getElem]at h;rcases Nat.lt_trichotomy i j with hij|hij|hij
 .exact .inl (by have:=h i j N O hij;rwa [G,J]at this)
 .subst hij;exact absurd (G.symm.trans J) U
 .exact .inr (by have:=h j i O N hij;rwa [G,J]at this)
theorem XU{a b:Int}(ha:0<=a)(hb:b<=4095){rs:List Rgt}(hw:Dr a b rs=false){L R S:List Int}{s:KN}(hs:KN.run S b ⟨.nil,L,R,0⟩ (BA a b 12 0)=some s):
  MY (LV rs++KN.kl S b ⟨.nil,L,R,0⟩ (BA a b 12 0)) 12 0=M1 (MW s.m rs).get 12 0:=by
 obtain⟨w1,w2⟩:=KK hw;have G:=λx hx=>KN.kl_keys (S:=S) (b:=b) (B:=BA a b 12 0) (s:=⟨.nil,L,R,0⟩) x hx;have hg:=KN.run_get (XB a b 12 0 (Int.le_refl 0)) hs;have a1:=(Ja a b 12 0 (Int.le_refl 0)).1;have O:=λx(hx:x∈BA a b 12 0)=>Dx (Int.le_refl 0) hx;have W:=(Ja a b 12 0 (Int.le_refl 0)).2;have e0:∀k,(OM.nil).get k=none:=λk=>rfl;simp only[e0]at hg;generalize KN.kl S b ⟨.nil,L,R,0⟩ (BA a b 12 0)=K at*;generalize BA a b 12 0=B at*;have hG:∀(l:Nat)(n:Int),(MW s.m rs).get ((l:Int),n)=match Ch (LV rs) (l,n)with|some h=>some (some h)|none=>if (l,n)∈B then some (Ch K (l,n)) else none:=by intro l n;rw[Ou (w1.imp λh=>AE),VO,hg];cases (if (l:Int)=0 then rs.find? (λr=>r.file==n) else none)<;>rfl
 refine(XV ?_ ?_ 12 0 ?_).1
 .intro l n h;rw[hG,Ke];cases hp:Ch (LV rs) (l,n)with
  |some v=>simp
  |none=>
   simp only[Option.none_or];by_cases N:(l,n)∈B
   .rw[if_pos N];simp
   .rw[if_neg N,Gc (λx hx he=>N (by rw[<-he];exact G x hx))];simp
 .intro l n J;rw[hG]at J;cases hp:Ch (LV rs) (l,n)with
  |some v=>rw[hp]at J;simp at J
  |none=>
   rw[hp]at J;simp only at J;by_cases N:(l,n)∈B
   .rw[if_pos N]at J;have U:Ch K (l,n)=none:=by simpa using J
    rw[Bool.eq_false_iff];intro hk;obtain⟨x,hx,h2,h3⟩:=Ge.1 hk;obtain⟨_,_,_,m4⟩:=O _ N;have e1:=Kx n (2^l);simp only at m4;rcases rp.1 hx with hx|hx
    .obtain⟨r,hr,rfl⟩:=rl.1 hx;have:=w2 r hr;simp only[Int.pow_zero,Int.mul_one]at h2 h3;omega
    .have Z:=I8 U x hx;have e2:=Kx x.1.2 (2^x.1.1);have a2:(1:Int)<=2^x.1.1:=sR Ah;rcases ct a1 (G x hx) N Z with h4|h4
     .simp only at h4;omega
     .simp only at h4;omega
   .rw[if_neg N]at J;cases J
 .intro x hx
  left
  rcases rp.1 hx with hx|hx
  .obtain⟨r,hr,rfl⟩:=rl.1 hx;have:=w2 r hr;simp only[Int.pow_zero,Int.mul_one,Int.zero_mul,Int.zero_add,uh];have:(2:Int)^12=4096:=Ah;omega
  .obtain⟨_,_,m3,_⟩:=O _ (G x hx);exact⟨W _ (G x hx),m3⟩
end
def SJ(lf:Int->Option Int){a b:Int}(a1:a<=b)(S:List Int):∀(B:List (Nat×Int))(s:KN),(∀q∈B,(q.2+1)*2^q.1<=a\/b <q.2*2^q.1)->S.drop s.i=DH lf B->s.L=ER lf a B->s.R=EM lf a B->
  ∃s',KN.run S b s B=some s'/\s'.L=[]/\s'.R=[]/\s'.i=s.i+B.length/\∀(l:Nat)(n:Int),s'.m.get ((l:Int),n)=if (l,n)∈B then some (bH lf l n) else s.m.get ((l:Int),n)
 |[],s,_,_,hL,hR=>⟨s,rfl,hL,hR,rfl,Ac⟩
 |q::B,s,hB,hS,hL,hR=>by
  have hp:(1:Int)<=2^q.1:=sR Ah;have h1:=Kx q.2 (2^q.1);have hq:=hB q Ac;have Z:S[s.i]?=some (if (bH lf q.1 q.2).isSome then 1 else 0):=by have:=congrArg (λl=>l[0]?) hS;simpa[DH]using this
  have W:S.drop (s.i+1)=DH lf B:=by have:=congrArg (λl=>l.drop 1) hS;simpa[DH,List.drop_drop]using this
  have J:∃s1,s.step S b q=some s1/\s1.i=s.i+1/\s1.L=ER lf a B/\s1.R=EM lf a B/\∀k,s1.m.get k=if k=((q.1:Int),q.2) then some (bH lf q.1 q.2) else s.m.get k:=by
   unfold KN.step;rw[Z];cases hb:bH lf q.1 q.2 with
   |none=>
    refine⟨⟨s.m.set (q.1,q.2) none,s.L,s.R,s.i+1⟩,Ac,rfl,?_,?_,λk=>OM.get_set _ _ _ _⟩
    .rw[hL];simp[ER,hb]
    .rw[hR];simp[EM,hb]
   |some v=>
    by_cases hu:b <q.2*2^q.1
    .have G:¬(q.2+1)*2^q.1<=a:=AE;have U:s.R=v::EM lf a B:=by rw[hR];simp[EM,hb,G]
     refine⟨⟨(s.m.set (q.1,q.2) none).set (q.1,q.2) (some v),s.L,EM lf a B,s.i+1⟩,by simp[hu,KN.side,U],rfl,?_,rfl,λk=>?_⟩
     .rw[hL];simp[ER,G]
     .simp only[OM.get_set];split<;>rfl
    .have G:(q.2+1)*2^q.1<=a:=AE;have O:s.L=v::ER lf a B:=by rw[hL];simp[ER,hb,G]
     refine⟨⟨(s.m.set (q.1,q.2) none).set (q.1,q.2) (some v),ER lf a B,s.R,s.i+1⟩,by simp[hu,KN.side,O],rfl,rfl,?_,λk=>?_⟩
     .rw[hR];simp[EM,G]
     .simp only[OM.get_set];split<;>rfl
  obtain⟨s1,e1,e2,e3,e4,e5⟩:=J;obtain⟨s',f1,f2,f3,f4,f5⟩:=SJ lf a1 S B s1 (λx hx=>hB x (by simp[hx])) (by rw[e2];exact W) e3 e4;refine⟨s',by simp only[KN.run,e1];exact f1,f2,f3,by rw[f4,e2,sF];omega,λl n=>?_⟩;rw[f5,e5];by_cases N:(l,n)∈B
  .rw[if_pos N,if_pos (by simp[N])]
  .rw[if_neg N];by_cases he:(l,n)=q
   .subst he;rw[if_pos rfl,if_pos Ac]
   .have h3:¬((l:Int),n)=((q.1:Int),q.2):=by intro h4;apply he;obtain⟨q1,q2⟩:=q;simp at h4 ⊢;omega
    rw[if_neg h3,if_neg (by simp[he,N])]
def SU{a b:Int}:∀{l:Nat}{n:Int},a<=n*2^l->(n+1)*2^l-1<=b->BA a b l n=[]
 |0,n,h1,h2=>by simp only[BA];simp at h1 h2;rw[if_neg];simp;omega
 |l+1,n,h1,h2=>by have J:(1:Int)<=2^(l+1):=sR Ah;have G:=Kx n (2^(l+1));simp only[BA];rw[Bj,if_pos ⟨h1,h2⟩]
theorem Mv{lf:Int->Option Int}{a b:Int}{g:Int×Int->Option (Option Int)}(G:∀(l:Nat)(n:Int)o,g ((l:Int),n)=some o->o=bH lf l n)(J:∀k,a<=k->k<=b->g (0,k)=none->lf k=none):
  ∀(l:Nat)(n:Int),(∀q∈BA a b l n,g ((q.1:Int),q.2)=some (bH lf q.1 q.2))->M1 g l n=bH lf l n
 |0,n,h=>by
  simp only[M1,bH];simp only[BA]at h;have O:=G 0 n;simp only[Int.natCast_zero,bH]at O;cases hg:g (0,n)with
  |some o=>exact O o hg
  |none=>
   split at h
   .have:=h (0,n) Ac;simp only[Int.natCast_zero]at this;rw[hg]at this;cases this
   .rename_i hc;simp at hc;rw[J n AE AE hg];rfl
 |l+1,n,h=>by
  have e0:(2:Int)^(l+1)=2*2^l:=by rw[sb,sX]
  have hp:(1:Int)<=2^l:=sR Ah;have U:(n+1)*2^(l+1)=(2*n+1)*2^l+2^l:=by rw[e0,<-si,<-Kx];congr 1;omega
  have e2:(2*n+1+1)*(2:Int)^l=(2*n+1)*2^l+2^l:=Kx _ _;have W:(2*n+1)*(2:Int)^l=2*n*2^l+2^l:=Kx _ _;have Z:n*2^(l+1)=2*n*2^l:=by rw[e0,<-si,sX n 2]
  simp only[M1,bH];cases hg:g (((l+1:Nat):Int),n)with
  |some o=>exact G (l+1) n o hg
  |none=>
   simp only[BA]at h;split at h
   .have:=h (l+1,n) Ac;simp only at this;rw[hg]at this;cases this
   .split at h
    .rename_i hc;rw[Mv G J l (2*n) (by rw[SU AE AE];simp),Mv G J l (2*n+1) (by rw[SU AE AE];simp)]
    .rw[Mv G J l (2*n) (λq N=>h q (by simp[N])),Mv G J l (2*n+1) (λq N=>h q (by simp[N]))]
theorem WV{lf:Int->Option Int}{a b:Int}(a1:a<=b){rs:List Rgt}(hw:Dr a b rs=false)(U:∀k,a<=k->k<=b->lf k=(rs.find? λr=>r.file==k).map λr=>CX r.file (A7 r)):
  ∃s,KN.run (DH lf (BA a b 12 0)) b ⟨.nil,ER lf a (BA a b 12 0),EM lf a (BA a b 12 0),0⟩ (BA a b 12 0)=some s/\s.ok (DH lf (BA a b 12 0))=true/\M1 (MW s.m rs).get 12 0=bH lf 12 0:=by
 obtain⟨w1,w2⟩:=KK hw;have N:=λx(hx:x∈BA a b 12 0)=>Dx (Int.le_refl 0) hx;obtain⟨s,r1,r2,r3,r4,r5⟩:=SJ lf a1 (DH lf (BA a b 12 0)) (BA a b 12 0) ⟨.nil,ER lf a (BA a b 12 0),EM lf a (BA a b 12 0),0⟩ (λq W=>(N q W).2.2.2) Ac rfl rfl;refine⟨s,r1,?_,?_⟩
 .simp[KN.ok,r2,r3,r4,DH]
 have Bz:∀(l:Nat)(n:Int),(MW s.m rs).get ((l:Int),n)=match (if (l:Int)=0 then rs.find? (λr=>r.file==n) else none)with|some r=>some (some (CX r.file (A7 r)))|none=>if (l,n)∈BA a b 12 0 then some (bH lf l n) else none:=λl n=>by rw[Ou (w1.imp λh=>AE),r5];rfl
 have G:∀k r,rs.find? (λr=>r.file==k)=some r->(a<=k/\k<=b)/\lf k=some (CX r.file (A7 r)):=λk r J=>by
  have Z:=w2 r (List.mem_of_find?_eq_some J);have h2:r.file=k:=by simpa using List.find?_some J
  refine⟨AE,?_⟩;rw[U k AE AE,J];rfl
 refine Mv (a:=a) (b:=b) ?_ ?_ 12 0 ?_
 .intro l n o O;rw[Bz]at O;split at O
  .rename_i r J;split at J
   .rename_i hl;obtain rfl:l=0:=AE;rw[<-tR O];exact(G n r J).2.symm
   .cases J
  .split at O
   .exact(tR O).symm
   .cases O
 .intro k Z h2 hg;have:=Bz 0 k;simp only[Int.natCast_zero,if_true]at this;rw[hg]at this;rw[U k Z h2];cases hf:rs.find? (λr=>r.file==k)with
  |none=>rfl
  |some r=>rw[hf]at this;cases this
 .intro q W;rw[Bz];split
  .rename_i r J;split at J
   .rename_i hl;have Z:=(G q.2 r J).1;have h2:=(N q W).2.2.2;have h3:q.1=0:=AE;rw[h3]at h2;simp at h2;omega
   .cases J
  .rw[if_pos W]
open Go.Proofs
open Go.Proofs
def TG{l:List Rgt}(N:l.Pairwise λa b=>a.file≠b.file):(Hg l).map Rgt.file=EK (l.map Rgt.file):=by
 unfold Hg;rw[tP];conv=>rhs;rw[<-List.map_id (EK (l.map Rgt.file))]
 refine uN λk J=>?_;have G:k∈l.map Rgt.file:=(u4 _ _).mem_iff.1 J;obtain⟨r,O,rfl⟩:=rl.1 G;show (IG l r.file).file=r.file;rw[En N O]
section
variable (l l2:List Int)
def F7:Int:=((RX (Ae l)).get (12,0)).getD 0
def Wo:F7 l=(bH (Jk ((Hg (Ae l)).map Fm)) 12 0).getD 0:=by have J:=HA (Ae l).length 0 (K5 l);have G:=O4 (l:=Ae l) (Ae l).length (ri _) (λj N=>J j AE AE) 12 (ri _) 0;rw[sE]at G;have h2:(RX (Ae l)).get (12,0)=bH (Jk ((Ae l).map Fm)) 12 0:=G;unfold F7;rw[h2,Ot (DT l)]
end
theorem ez(rs:List Rgt)(hn:rs.length<=2^20)(hb:∀r∈rs,isB (A7 r)/\(A7 r).length<=2^39)(h:List Row)(N:Bool)(a b:Int)(a6:a<=b)(L R S:List Int)(hS:S.length<=2^40){s:KN}(hN:KN.run S b ⟨.nil,L,R,0⟩ (BA a b 12 0)=some s)(Q:AExit->St->Prop)(W:∀e J,AK e 8= .R (h.length+2) 0->AK e 9= .R (h.length+3) 0->Q .ret ⟨e,h++([.cells [b],.cells [.v (AM .u64 L),.v (AM .u64 R),.v (AM .u8 S)],.cells [.mr (h.length+4)],.cells [.v (.bool (s.ok S))],(MW s.m rs).row]++J)⟩):
  AX OB Q ⟨[(0,(a:D)),(2,(rs.map GA:D)),(5,.R h.length 0),(7,.R (h.length+1) 0),(8,.R (h.length+2) 0),(9,.R (h.length+3) 0),(10,.R (h.length+5) 0),(11,.R (if N then h.length+7 else h.length+6) 0),(12,.R (if N then h.length+6 else h.length+7) 0)],
   h++[.cells [b],.cells [.v (AM .u64 L),.v (AM .u64 R),.v (AM .u8 S)],.cells [.v .nilm],.cells [false],OM.nil.row,.cells [.mr (h.length+4)],.cells [.v (AM .u64 (if N then R else L))],.cells [.v (AM .u64 (if N then L else R))]]⟩:=by
 have q4:=λZ=>Zp a b (h++Z);simp only[OB,AH,AJ,AY,AB 179 3,AB 179 4];simp[AQ];refine⟨_,_,(q4 _),?_⟩;simp;refine cb h N a b a6 L R S hS _ ?_ ?_ ?_ ?_ ?_ ?_ ?_ ?_ ?_ L R ?_ hN ?_
 all_goals try rfl
 all_goals try (simp[D3];done)
 intro b0 J;simp only[AB 179 17];simp[D3];have G:=λH q t hq ht a7=>gL s.m rs hn hb H q t hq ht a7;simp only[Int.natCast_zero]at G;refine G _ (h.length+4) (h.length+5) Ac Ac AE _ _ _ _ _ _ _ ?_;intro e J2 g7 g8 g9 O a1 a2 U;have a8:s.ok S=(decide ((s.i:Int)=S.length)&&(decide (s.L=[])&&decide (s.R=[]))):=by
  unfold KN.ok
  congr 1
  congr 1<;>exact decide_eq_decide.2 (by rw[<-uw];omega)
 rw[a8]at W;rw[Bf];refine Bc _ (λs hs=>⟨s,.inl rfl,hs⟩) ?_;simp only[AB 179 22,AM];by_cases c1:(s.i:Int)=S.length
 .by_cases c2:s.L=[]
  .by_cases c3:s.R=[]
   .simp[c1,c2,c3,AM]at W;cases N<;>simp[g7,g8,g9,O,a1,a2,U,AQ,c1,c2,c3]
    all_goals rw[AA];refine W _ _ ?_ ?_<;>rfl
   .have c4:((s.R.length:Int)==0)=false:=by simp[c3]
    simp[c1,c2,c3,AM]at W;cases N<;>simp[g7,g8,g9,O,a1,a2,U,AQ,c1,c2,c4]
    all_goals rw[AA];refine W _ _ ?_ ?_<;>rfl
  .simp[c1,c2,AM]at W;cases N<;>simp[g7,g8,g9,O,a1,U,AQ,c1,c2]
   all_goals rw[AA];refine W _ _ ?_ ?_<;>rfl
 .simp[c1,AM]at W;cases N<;>simp[g7,g8,g9,O,U,AQ,c1]
  all_goals rw[AA];refine W _ _ ?_ ?_<;>rfl
def DW(root a b:Int)(rs:List Rgt)(L R S:List Int):Int:=
 if Dr a b rs then 1 else match KN.run S b ⟨.nil,L,R,0⟩ (BA a b 12 0)with
  |none=>2
  |some s=>if s.ok S then (if (M1 (MW s.m rs).get 12 0).getD 0=root then 0 else 10) else 2
def eG(rs:List Rgt)(h:List Row)(hl:Low h)(a b:Int)(W:a<=b)(L R S:List Int)(hS:S.length<=2^40)(hN:KN.run S b ⟨.nil,L,R,0⟩ (BA a b 12 0)=none):
  FX 179 [a,b,(rs.map GA:D),.v (.agg [AM .u64 L,AM .u64 R,AM .u8 S])] h [.v .nilm,(false:D)]
   (h++[.cells [b],.cells [.v (AM .u64 L),.v (AM .u64 R),.v (AM .u8 S)],.cells [.v .nilm],.cells [false]]):=by
 refine At (D6 179) rfl Ac ?_ ?_ ?_
 .refine hl.lows ?_;intro row G n;simp only[rj,sK,or_false]at G;rcases G with rfl|rfl|rfl|rfl<;>rfl
 .intro d hd;simp only[rj,sK,or_false]at hd;rcases hd with rfl|rfl<;>simp[D.lt]
 .have N:=λfl Q=>fA rs h fl a b W L R S hS hN Q;rw[show (gA 179)= .seq (.reg (oG 179 0) _) (.seq (.reg (oG 179 1) _) (.seq (.regA (oG 179 2) _ _ _) OB)) from(As 179 :),AH,AJ];simp only[AB 179 0,AZ];simp;rw[AH,AJ];simp only[AB 179 1];simp[AQ];rw[AH,Bf];refine Bc _ (λs hs=>⟨s,.inl rfl,hs⟩) ?_;simp only[AB 179 2,AM];simp[AQ];have e0:OM.nil.row= .map [] [] 0:=rfl;rw[e0]at N;have Z:=N false;have hT:=N true;clear N;simp[AM]at Z hT
  repeat' first
   |exact Z _ λe J O U=>⟨trivial,by simp[AW 179,O,U,D.one?],J,rfl⟩
   |exact hT _ λe J O U=>⟨trivial,by simp[AW 179,O,U,D.one?],J,rfl⟩
   |apply And.intro
def eF(rs:List Rgt)(hn:rs.length<=2^20)(hb:∀r∈rs,isB (A7 r)/\(A7 r).length<=2^39)(h:List Row)(hl:Low h)(a b:Int)(W:a<=b)(L R S:List Int)(hS:S.length<=2^40){s:KN}(hN:KN.run S b ⟨.nil,L,R,0⟩ (BA a b 12 0)=some s):
  FX 179 [a,b,(rs.map GA:D),.v (.agg [AM .u64 L,AM .u64 R,AM .u8 S])] h [.mr (h.length+4),.v (.bool (s.ok S))]
   (h++[.cells [b],.cells [.v (AM .u64 L),.v (AM .u64 R),.v (AM .u8 S)],.cells [.mr (h.length+4)],.cells [.v (.bool (s.ok S))],(MW s.m rs).row]):=by
 refine At (D6 179) rfl Ac ?_ ?_ ?_
 .intro row G;rw[re];rcases rp.1 G with hr|hr
  .exact Row.low_mono AE (hl row hr)
  .simp only[rj,sK,or_false]at hr;rcases hr with rfl|rfl|rfl|rfl|rfl<;>simp[Row.low,D.lts,D.lt,OM.row]
 .intro d hd;simp only[rj,sK,or_false]at hd;rcases hd with rfl|rfl<;>simp[D.lt]
 .have N:=λfl Q=>ez rs hn hb h fl a b W L R S hS hN Q;rw[show (gA 179)= .seq (.reg (oG 179 0) _) (.seq (.reg (oG 179 1) _) (.seq (.regA (oG 179 2) _ _ _) OB)) from(As 179 :),AH,AJ];simp only[AB 179 0,AZ];simp;rw[AH,AJ];simp only[AB 179 1];simp[AQ];rw[AH,Bf];refine Bc _ (λs hs=>⟨s,.inl rfl,hs⟩) ?_;simp only[AB 179 2,AM];simp[AQ];have e0:OM.nil.row= .map [] [] 0:=rfl;rw[e0]at N;have Z:=N false;have hT:=N true;clear N;generalize (MW s.m rs).row=KR at*;generalize s.ok S=OK at*;simp[AM]at Z hT
  repeat' first
   |exact Z _ λe J O U=>⟨trivial,by simp[AW 179,O,U,D.one?],J,rfl⟩
   |exact hT _ λe J O U=>⟨trivial,by simp[AW 179,O,U,D.one?],J,rfl⟩
   |apply And.intro
def jg(rs:List Rgt)(hn:rs.length<=2^20)(hb:∀r∈rs,isB (A7 r)/\(A7 r).length<=2^39)(a b:Int)(hk:Sm a b)(L R S:List Int)(hS:S.length<=2^40)(h:List Row)(hl:Low h)(N:Int):
  FX 89 [.v (.int .u64 N),a,b,(rs.map GA:D),.v (.agg [AM .u64 L,AM .u64 R,AM .u8 S])] h [((DW N a b rs L R S:Int):D)] h:=by
 refine At (D6 89) rfl (ri _) hl (by simp[D.lt]) ?_;have Z:=(Zt a b).fsp;rw[decide_eq_true hk]at Z;have W:=(eH a b rs hn (λr O=>by have:=(hb r O).2;omega)).fsp;have a2:Low (h++[.cells [.v (AM .u64 L),.v (AM .u64 R),.v (AM .u8 S)]]):=hl.lows (by intro row U n;rw[rm.1 U];rfl)
 obtain⟨C,G⟩:∃C,DW N a b rs L R S=C:=⟨_,rfl⟩;rw[G];unfold DW at G;cases hw:Dr a b rs with
 |true=>
  rw[hw]at G W;simp at G;subst G;simp at Z W;simp only[Zw,As 89,AB 89 0,AB 89 1,AZ];simp;refine⟨_,_,Z _,?_⟩;simp;simp only[AB 89 3];simp;refine⟨_,_,W _,?_⟩;simp[AB 89 4,AA,AW 89]
 |false=>
  rw[hw]at G W;simp at G;cases O:KN.run S b ⟨.nil,L,R,0⟩ (BA a b 12 0)with
  |none=>
   rw[O]at G;simp at G;subst G;have q3:=eG rs _ a2 a b hk.2.2 L R S hS O;generalize a7:rs.map GA=RR at*;simp only[AM]at Z W q3 ⊢;simp at Z W q3;simp only[Zw,As 89,AB 89 0,AB 89 1,AZ];simp;refine⟨_,_,Z _,?_⟩;simp;simp only[AB 89 3];simp;refine⟨_,_,W _,?_⟩;simp[AD];simp only[AB 89 5];simp;refine⟨_,_,q3,?_⟩;simp[AQ,AB 89 6,AB 89 7,AA,AW 89]
  |some s=>
   rw[O]at G;simp only at G;have q3:=eF rs hn hb _ a2 a b hk.2.2 L R S hS O;have q4:=λH h1 h2 h3 h4=>eE (MW s.m rs) (h.length+6) (h.length+7) (h.length+1+4) 12 Ah H h1 h2 h3 h4 0 Ah Ah;generalize M1 (MW s.m rs).get 12 0=BO at*;have U:∃x y z,(MW s.m rs).row= .map x y z:=⟨_,_,_,rfl⟩;generalize (MW s.m rs).row=KR at*;generalize s.ok S=OK at*;generalize a7:rs.map GA=RR at*;simp only[AM]at Z W q3 ⊢;simp at Z W q3;simp only[Zw,As 89,AB 89 0,AB 89 1,AZ];simp;refine⟨_,_,Z _,?_⟩;simp;simp only[AB 89 3];simp;refine⟨_,_,W _,?_⟩;simp[AD];simp only[AB 89 5];simp;refine⟨_,_,q3,?_⟩;cases OK with
   |false=>
    simp at G;subst G;simp[AQ,AB 89 6,AB 89 7,AA,AW 89]
   |true=>
    simp at G;simp[AQ,AB 89 6,AB 89 8];simp only[AB 89 9];simp[AQ];simp only[AB 89 10];simp;simp only[BV,Ea]at q4;refine⟨_,_,q4 _ ?_ ?_ ?_ ?_,?_⟩
    .simp
    .simp
    .simp
    .intro row a1;rw[re];rcases rp.1 a1 with O|O
     .exact Row.low_mono AE (hl row O)
     .obtain⟨mx,my,mz,a6⟩:=U;simp only[rj,sK,or_false]at O;rcases O with rfl|rfl|rfl|rfl|rfl|rfl|rfl|rfl<;>simp[Row.low,D.lts,D.lt,a6]<;>omega
    .by_cases J:BO.getD 0=N
     .rw[if_pos J]at G;subst G;simp[J,AB 89 12,AA,AW 89]
     .rw[if_neg J]at G;subst G;simp[J,AB 89 11,AA,AW 89]
def Jc(t:Th):Bool:=decide (t.cs.length=0)&&decide (t.vs.length=0)&&decide (t.ps.length=0)
def Ext.lo(x:Ext):Int:=if x.kind=0 then x.file else 0
def Ext.hi(x:Ext):Int:=if x.kind=0 then x.file else 4095
def PU(x:Ext):Bool:=decide (x.kind <0)||(decide (3 <x.kind)||((!decide (x.kind=0)&& !decide (x.file=0))||((!decide (x.kind=2)&&(!decide (x.party=0)||decide (0 <x.fs.length)))||((!decide (x.kind=3)&& !decide (x.day=0))||(!(decide (x.kind=1)||decide (x.kind=3))&&(!Jc x.t||decide (0 <x.cl.length)))))))
def H4(x:Ext):Int:=if PU x then 1 else if x.file <0\/4095 <x.file\/x.day <0\/131072 <x.day then 5 else if x.kind=2/\(x.party <1\/4095 <x.party) then 1 else 0
theorem U1{x:Ext}(h:H4 x=0):(x.kind=0\/x.kind=1\/x.kind=2\/x.kind=3)/\Sm x.lo x.hi:=by
 unfold H4 at h;cases hb:PU x with
 |true=>rw[hb]at h;simp at h
 |false=>
  rw[hb]at h;simp only[rz,if_false]at h;split at h
  .cases h
  .rename_i h2;unfold PU at hb;simp only[Bool.or_eq_false_iff,decide_eq_false_iff_not]at hb;refine⟨AE,?_⟩;unfold Sm Ext.lo Ext.hi;split<;>omega
def jh(x:Ext)(ht:x.t.ok):PX 87 [x.V] [((H4 x:Int):V)]:=by
 refine BS 87 ?_;obtain⟨C,G⟩:∃C,H4 x=C:=⟨_,rfl⟩;rw[G];unfold H4 PU at G;obtain⟨J,file,party,day,⟨tc,tv,tp⟩,rs,cl,fs,L,R,S⟩:=x;have b4:(Th.mk tc tv tp).ok:=ht;obtain⟨b1,b2,b3⟩:tc.length<=2^30/\tv.length<=2^30/\tp.length<=2^30:=by
  cases b4 with
  |mk h1 h2 h3=>exact⟨h1,h2,h3⟩
 have w1:IntKind.i64.wrap ((tc.length:Int)+tv.length)=tc.length+tv.length:=AS AE AE;have w2:IntKind.i64.wrap ((tc.length:Int)+tv.length+tp.length)=tc.length+tv.length+tp.length:=AS AE AE;have Z:((tc.length:Int)+tv.length+tp.length=0)=(Jc (.mk tc tv tp)=true):=by have e:Jc (.mk tc tv tp)=(decide (tc.length=0)&&decide (tv.length=0)&&decide (tp.length=0)):=rfl;rw[e];apply propext;simp only[rX,decide_eq_true_eq];omega
 simp only at G;generalize Jc (.mk tc tv tp)=NT at*;simp only[Zw,As 87,AB 87 0,Ad,Ext.V,Ext.cs,Th.cs,Th.vs,Th.ps,AM];simp;have b0:J <0\/3 <J\/J=0\/J=1\/J=2\/J=3:=AE;rcases b0 with h|h|rfl|rfl|rfl|rfl
 .have k1:¬J=1:=AE;have k3:¬J=3:=AE;simp only[AB 87 1];simp[k1];simp only[AB 87 2];simp[w1,w2];simp only[AB 87 3];simp[h,k1,k3]at G;subst G;simp[h,AD,AB 87 8,AA,AW 87]
 .have k1:¬J=1:=AE;have k3:¬J=3:=AE;have k0:¬J <0:=AE;simp only[AB 87 1];simp[k1];simp only[AB 87 2];simp[w1,w2];simp only[AB 87 3];simp[h,k1,k3,k0]at G;subst G;simp[h,k0,AD,AB 87 8,AA,AW 87]
 .simp only[AB 87 1];simp;simp only[AB 87 2];simp[w1,w2];simp only[AB 87 3];simp;simp only[AB 87 4];simp[AD];simp only[AB 87 5];by_cases N:party=0
  .by_cases U:fs.length=0
   .simp[N,U];simp only[AB 87 6];by_cases hd:day=0
    .simp[hd];simp only[AB 87 7];cases hNT:NT with
     |false=>
      rw[hNT]at G;simp[N,U,hd]at G;subst G;simp[hNT,Z,AB 87 8,AA,AW 87]
     |true=>
      rw[hNT]at G;by_cases hc:cl.length=0
      .simp[hNT,hc,Z];simp only[AB 87 9];by_cases a1:file <0
       .simp[N,U,hd,hc,a1]at G;subst G;simp[a1,AB 87 11,AA,AW 87]
       .by_cases O:4095 <file
        .simp[N,U,hd,hc,a1,O]at G;subst G;simp[a1,O,AB 87 11,AA,AW 87]
        .simp[a1,O];simp only[AB 87 10];simp;simp only[AB 87 12];simp;simp[N,U,hd,hc,a1,O]at G;subst G;simp[AB 87 14,AA,AW 87]
      .have a6:0 <cl.length:=AE;simp[N,U,hd,a6]at G;subst G;simp[hNT,a6,Z,AB 87 8,AA,AW 87]
    .simp[N,U,hd]at G;subst G;simp[hd,AB 87 8,AA,AW 87]
   .have O:0 <fs.length:=AE;simp[N,O]at G;subst G;simp[N,O,AB 87 8,AA,AW 87]
  .simp[N]at G;subst G;simp[N,AB 87 8,AA,AW 87]
 .simp only[AB 87 1];simp;simp only[AB 87 2];simp[w1,w2];simp only[AB 87 3];simp;simp only[AB 87 4];by_cases hi:file=0
  .simp[hi,AD];simp only[AB 87 5];by_cases N:party=0
   .by_cases U:fs.length=0
    .simp[N,U];simp only[AB 87 6];by_cases hd:day=0
     .simp[hd];simp only[AB 87 7];simp;simp only[AB 87 9];simp;simp only[AB 87 10];simp;simp only[AB 87 12];simp;simp[hi,N,U,hd]at G;subst G;simp[AB 87 14,AA,AW 87]
     .simp[hi,N,U,hd]at G;subst G;simp[hd,AB 87 8,AA,AW 87]
    .have O:0 <fs.length:=AE;simp[hi,N,O]at G;subst G;simp[N,O,AB 87 8,AA,AW 87]
   .simp[hi,N]at G;subst G;simp[N,AB 87 8,AA,AW 87]
  .simp[hi]at G;subst G;simp[hi,AD,AB 87 8,AA,AW 87]
 .simp only[AB 87 1];simp;simp only[AB 87 2];simp[w1,w2];simp only[AB 87 3];simp;simp only[AB 87 4];by_cases hi:file=0
  .simp[hi,AD];simp only[AB 87 5];simp;simp only[AB 87 6];by_cases hd:day=0
   .simp[hd];simp only[AB 87 7];cases hNT:NT with
    |false=>
     rw[hNT]at G;simp[hi,hd]at G;subst G;simp[hNT,Z,AB 87 8,AA,AW 87]
    |true=>
     rw[hNT]at G;by_cases hc:cl.length=0
     .simp[hNT,hc,Z];simp only[AB 87 9];simp;simp only[AB 87 10];simp;simp only[AB 87 12];by_cases a2:party <1
      .simp[hi,hd,hc,a2]at G;subst G;simp[a2,AB 87 13,AA,AW 87]
      .by_cases a8:4095 <party
       .simp[hi,hd,hc,a2,a8]at G;subst G;simp[a2,a8,AB 87 13,AA,AW 87]
       .simp[a2,a8];simp[hi,hd,hc,a2,a8]at G;subst G;simp[AB 87 14,AA,AW 87]
     .have a6:0 <cl.length:=AE;simp[hi,hd,a6]at G;subst G;simp[hNT,a6,Z,AB 87 8,AA,AW 87]
   .simp[hi,hd]at G;subst G;simp[hd,AB 87 8,AA,AW 87]
  .simp[hi]at G;subst G;simp[hi,AD,AB 87 8,AA,AW 87]
 .simp only[AB 87 1];simp;simp only[AB 87 2];simp[w1,w2];simp only[AB 87 3];simp;simp only[AB 87 4];by_cases hi:file=0
  .simp[hi,AD];simp only[AB 87 5];by_cases N:party=0
   .by_cases U:fs.length=0
    .simp[N,U];simp only[AB 87 6];simp;simp only[AB 87 7];simp;simp only[AB 87 9];simp;simp only[AB 87 10];by_cases W:day <0
     .simp[hi,N,U,W]at G;subst G;simp[W,AB 87 11,AA,AW 87]
     .by_cases a7:131072 <day
      .simp[hi,N,U,W,a7]at G;subst G;simp[W,a7,AB 87 11,AA,AW 87]
      .simp[W,a7];simp only[AB 87 12];simp;simp[hi,N,U,W,a7]at G;subst G;simp[AB 87 14,AA,AW 87]
    .have O:0 <fs.length:=AE;simp[hi,N,O]at G;subst G;simp[N,O,AB 87 8,AA,AW 87]
   .simp[hi,N]at G;subst G;simp[N,AB 87 8,AA,AW 87]
  .simp[hi]at G;subst G;simp[hi,AD,AB 87 8,AA,AW 87]
def qO(N file party day:Int)(Z:List Int)(tv:List Val)(tp:List Th)(rs:List Rgt)(cl:List (Int×Int))(fs L R S:List Int)(e:CC)(d3:D)(K:St->Prop)(G:AK e 1= .R 0 0)(U:AK e 3=d3)(J:∀O,AK O 1= .R 0 0->AK O 3=d3->AK O 4= .v (.bool (Jc (.mk Z tv tp)))->K ⟨O,[.cells ((Ext.mk N file party day (.mk Z tv tp) rs cl fs L R S).cs.map .v)]⟩):
  Bd Tryz.prog BK (oG 74 2) K ⟨e,[.cells ((Ext.mk N file party day (.mk Z tv tp) rs cl fs L R S).cs.map .v)]⟩:=by
 simp only[AB 74 2,Ext.cs,Jc,Th.cs,Th.vs,Th.ps,AM]at*;by_cases W:Z.length=0
 .by_cases h2:tv.length=0
  .by_cases h3:tp.length=0
   .simp[G,W,h2,h3]at J ⊢;exact J _ (by simp[AK,G]) (by simp[AK,U]) (by simp[AK])
   .simp[G,W,h2,h3]at J ⊢;exact J _ (by simp[AK,G]) (by simp[AK,U]) (by simp[AK];exact λh=>by simp[h]at h3)
  .simp[G,W,h2]at J ⊢;exact J _ (by simp[AK,G]) (by simp[AK,U]) (by simp[AK])
 .simp[G,W]at J ⊢;exact J _ (by simp[AK,G]) (by simp[AK,U]) (by simp[AK])
def jp(x:Ext):PX 74 [x.V] [((H4 x:Int):V)]:=by
 refine BS 74 ?_;obtain⟨C,G⟩:∃C,H4 x=C:=⟨_,rfl⟩;rw[G];unfold H4 PU at G;obtain⟨J,file,party,day,⟨tc,tv,tp⟩,rs,cl,fs,L,R,S⟩:=x;have hr:=qO J file party day tc tv tp rs cl fs L R S;simp only at G;generalize Jc (.mk tc tv tp)=NT at*;simp only[As 74,AH,AJ,AO,AB 74 0,Ad,Ext.V,Ext.cs,Th.cs,Th.vs,Th.ps,AM]at hr ⊢;simp at hr ⊢;have b1:J <0\/3 <J\/J=0\/J=1\/J=2\/J=3:=AE;rcases b1 with h|h|rfl|rfl|rfl|rfl
 .have k1:¬J=1:=AE;have k3:¬J=3:=AE;simp only[AB 74 1];simp[k1];refine hr _ _ _ rfl rfl ?_;intro e U W O;simp[h,k1,k3]at G;subst G;simp only[AB 74 3];simp[U,W,O,h,AB 74 4,AA,AW 74]
 .have k1:¬J=1:=AE;have k3:¬J=3:=AE;have k0:¬J <0:=AE;simp only[AB 74 1];simp[k1];refine hr _ _ _ rfl rfl ?_;intro e U W O;simp[h,k1,k3,k0]at G;subst G;simp only[AB 74 3];simp[U,W,O,h,k0,AB 74 4,AA,AW 74]
 .simp only[AB 74 1];simp;refine hr _ _ _ rfl rfl ?_;intro e U W O;by_cases N:party=0
  .by_cases hf:fs.length=0
   .by_cases hd:day=0
    .cases hNT:NT with
     |false=>
      rw[hNT]at G
      try rw[hNT]at O
      simp[N,hf,hd]at G;subst G;simp only[AB 74 3];simp[U,W,O,N,hf,hd,AB 74 4,AA,AW 74]
     |true=>
      rw[hNT]at G
      try rw[hNT]at O
      by_cases hc:cl.length=0
      .simp only[AB 74 3];simp[U,W,O,N,hf,hd,hc,AD];simp only[AB 74 5];by_cases a2:file <0
       .simp[N,hf,hd,hc,a2]at G;subst G;simp[a2,AB 74 6,AA,AW 74]
       .by_cases Z:4095 <file
        .simp[N,hf,hd,hc,a2,Z]at G;subst G;simp[a2,Z,AB 74 6,AA,AW 74]
        .simp[a2,Z];simp only[AB 74 7];simp[N,hf,hd,hc,a2,Z]at G;subst G;simp[AB 74 9,AA,AW 74]
      .have a7:0 <cl.length:=AE;simp[N,hf,hd,a7]at G;subst G;simp only[AB 74 3];simp[U,W,O,N,hf,hd,a7,AB 74 4,AA,AW 74]
    .simp[N,hf,hd]at G;subst G;simp only[AB 74 3];simp[U,W,O,N,hf,hd,AB 74 4,AA,AW 74]
   .have Z:0 <fs.length:=AE;simp[N,Z]at G;subst G;simp only[AB 74 3];simp[U,W,O,N,Z,AB 74 4,AA,AW 74]
  .simp[N]at G;subst G;simp only[AB 74 3];simp[U,W,O,N,AB 74 4,AA,AW 74]
 .simp only[AB 74 1];simp;refine hr _ _ _ rfl rfl ?_;intro e U W O;by_cases hi:file=0
  .by_cases N:party=0
   .by_cases hf:fs.length=0
    .by_cases hd:day=0
     .simp only[AB 74 3];simp[U,W,O,hi,N,hf,hd,AD];simp only[AB 74 5];simp;simp only[AB 74 7];simp[hi,N,hf,hd]at G;subst G;simp[AB 74 9,AA,AW 74]
     .simp[hi,N,hf,hd]at G;subst G;simp only[AB 74 3];simp[U,W,O,hi,N,hf,hd,AB 74 4,AA,AW 74]
    .have Z:0 <fs.length:=AE;simp[hi,N,Z]at G;subst G;simp only[AB 74 3];simp[U,W,O,hi,N,Z,AB 74 4,AA,AW 74]
   .simp[hi,N]at G;subst G;simp only[AB 74 3];simp[U,W,O,hi,N,AB 74 4,AA,AW 74]
  .simp[hi]at G;subst G;simp only[AB 74 3];simp[U,W,O,hi,AB 74 4,AA,AW 74]
 .simp only[AB 74 1];simp;refine hr _ _ _ rfl rfl ?_;intro e U W O;by_cases hi:file=0
  .by_cases hd:day=0
   .cases hNT:NT with
    |false=>
     rw[hNT]at G
     try rw[hNT]at O
     simp[hi,hd]at G;subst G;simp only[AB 74 3];simp[U,W,O,hi,hd,AB 74 4,AA,AW 74]
    |true=>
     rw[hNT]at G
     try rw[hNT]at O
     by_cases hc:cl.length=0
     .simp only[AB 74 3];simp[U,W,O,hi,hd,hc,AD];simp only[AB 74 5];simp;simp only[AB 74 7];by_cases a6:party <1
      .simp[hi,hd,hc,a6]at G;subst G;simp[a6,AB 74 8,AA,AW 74]
      .by_cases b0:4095 <party
       .simp[hi,hd,hc,a6,b0]at G;subst G;simp[a6,b0,AB 74 8,AA,AW 74]
       .simp[hi,hd,hc,a6,b0]at G;subst G;simp[a6,b0,AB 74 9,AA,AW 74]
     .have a7:0 <cl.length:=AE;simp[hi,hd,a7]at G;subst G;simp only[AB 74 3];simp[U,W,O,hi,hd,a7,AB 74 4,AA,AW 74]
   .simp[hi,hd]at G;subst G;simp only[AB 74 3];simp[U,W,O,hi,hd,AB 74 4,AA,AW 74]
  .simp[hi]at G;subst G;simp only[AB 74 3];simp[U,W,O,hi,AB 74 4,AA,AW 74]
 .simp only[AB 74 1];simp;refine hr _ _ _ rfl rfl ?_;intro e U W O;by_cases hi:file=0
  .by_cases N:party=0
   .by_cases hf:fs.length=0
    .simp only[AB 74 3];simp[U,W,O,hi,N,hf,AD];simp only[AB 74 5];by_cases a1:day <0
     .simp[hi,N,hf,a1]at G;subst G;simp[a1,AB 74 6,AA,AW 74]
     .by_cases a8:131072 <day
      .simp[hi,N,hf,a1,a8]at G;subst G;simp[a1,a8,AB 74 6,AA,AW 74]
      .simp[a1,a8];simp only[AB 74 7];simp[hi,N,hf,a1,a8]at G;subst G;simp[AB 74 9,AA,AW 74]
    .have Z:0 <fs.length:=AE;simp[hi,N,Z]at G;subst G;simp only[AB 74 3];simp[U,W,O,hi,N,Z,AB 74 4,AA,AW 74]
   .simp[hi,N]at G;subst G;simp only[AB 74 3];simp[U,W,O,hi,N,AB 74 4,AA,AW 74]
  .simp[hi]at G;subst G;simp only[AB 74 3];simp[U,W,O,hi,AB 74 4,AA,AW 74]
section
def kB(K:KL):List V:=K.map λx=>KZ x.1
def kH(K:KL):List V:=K.map λx=> .int .u64 x.2
def Kf(K:KL):Row:= .cells [.W 281 2 (kB K),.W 47 1 (kH K)]
def Ow(K:KL):(kB K).length=K.length:=by simp[kB]
def VS(K:KL):(kH K).length=K.length:=by simp[kH]
def Si(K:KL)(l:Nat)(n v:Int):kB (K++[((l,n),v)])=kB K++[.agg [((n*2^l:Int):V),((2^l:Int):V)]]:=by simp[kB,KZ]
def Sh(K:KL)(q:Nat×Int)(v:Int):kH (K++[(q,v)])=kH K++[.int .u64 v]:=by simp[kH]
theorem bg(x:Nat×Int)(l:Nat)(n:Int):(x.2*2^x.1=n*2^l/\(2:Int)^x.1=2^l)↔x=(l,n):=by
 constructor
 .rintro⟨G,h2⟩;have O:(2:Nat)^x.1=2^l:=by exact_mod_cast h2
  have J:x.1=l:=by
   rcases Nat.lt_trichotomy x.1 l with h|h|h
   .have:(2:Nat)^x.1 <2^l:=Nat.pow_lt_pow_right Ah h;omega
   .exact h
   .have:(2:Nat)^l <2^x.1:=Nat.pow_lt_pow_right Ah h;omega
  obtain⟨k,m⟩:=x;simp only at G h2 J ⊢;subst J;have U:(0:Int) <2^k:=sR Ah;have N:m=n:=Int.eq_of_mul_eq_mul_right AE G;rw[N]
 .rintro rfl;exact⟨rfl,rfl⟩
variable {k:Nat}
def TZ{K:KL}{q:Nat×Int}{x:(Nat×Int)×Int}(hx:K[k]?=some x)(G:x.1=q)(J:∀y∈K.take k,y.1≠q):Ch K q=some x.2:=by
 have e:K=K.take k++(x::K.drop (k+1)):=by obtain⟨N,h2⟩:=rZ.1 hx;rw[<-h2,List.getElem_cons_drop,sa]
 rw[e,Ke,Gc J,Option.none_or];simp[Ch,G]
def Ta{K:KL}{x:(Nat×Int)×Int}(hx:K[k]?=some x)(l:Nat)(n:Int):Hj (K.take (k+1)) l n=(Hj (K.take k) l n||(decide (n*2^l<=x.1.2*2^x.1.1)&&decide (x.1.2*2^x.1.1 <n*2^l+2^l))):=by unfold Hj;rw[rx,hx,List.any_append];simp
theorem gJ(K:KL)(hK:K.length<=2^30)(l:Nat)(n:Int)(hr:0<=n*2^l/\n*2^l+2^l<=4096)(H:List Row)(q:Nat)(hq:H[q]?=some (Kf K))(Q:AExit->St->Prop)(a7:∀h,Ch K (l,n)=some h->∀e J,AK e 4= .v (.int .u64 h)->AK e 5=(true:D)->Q .ret ⟨e,H++J⟩)(a8:Ch K (l,n)=none->∀e,AK e 0= .R q 0->AK e 3= .R H.length 0->AK e 6= .v (.bool (Hj K l n))->Q (.exit 0) ⟨e,H++[.cells [((n*2^l:Int):D),((2^l:Int):D)]]⟩):
  AX (.loop (lG 188 0)) Q ⟨[(0,.R q 0),(3,.R H.length 0),(6,(false:D)),(7,((0:Nat):D))],H++[.cells [((n*2^l:Int):D),((2^l:Int):D)]]⟩:=by
 have hp:(1:Int)<=2^l:=sR Ah;have G:∀Z,(H++Z)[q]?=some (.cells [.W 281 2 (kB K),.W 47 1 (kH K)]):=λZ=>AU Z hq;refine Ag K.length (λk s=>(∀x∈K.take k,x.1≠(l,n))/\s=⟨[(0,.R q 0),(3,.R H.length 0),(6,.v (.bool (Hj (K.take k) l n))),(7,(k:D))],H++[.cells [((n*2^l:Int):D),((2^l:Int):D)]]⟩) ⟨Ac,by simp[Hj]⟩ ?_;rintro k s hk ⟨hI,rfl⟩;simp only[Zw,BG 188 0,AB 188 3];simp[G,Ow];by_cases N:k <K.length
 .obtain⟨x,hx⟩:∃x,K[k]?=some x:=⟨_,rW N⟩;have w1:=Bt k;have g1:(kB K)[k]?=some (.agg [((x.1.2*2^x.1.1:Int):V),((2^x.1.1:Int):V)]):=by unfold kB;rw[rk,hx];rfl
  have g2:(kH K)[k]?=some (.int .u64 x.2):=by unfold kH;rw[rk,hx];rfl
  have a1:=bg x.1 l n;have b1:=Ta hx l n;have a2:=λW=>TZ (q:=(l,n)) hx W hI;have a6:x.1≠(l,n)->∀y∈K.take (k+1),y.1≠(l,n):=λU y hy=>by
   rw[rx,hx]at hy;rcases rp.1 hy with hy|hy
   .exact hI y hy
   .have:y=x:=by simpa using hy
    rw[this];exact U
  have w2:IntKind.i64.wrap (n*2^l+2^l)=n*2^l+2^l:=AS AE AE;clear hI;rw[CF,AD,b1];generalize Hj (K.take k) l n=B at*;generalize b3:K.length=b2 at*;have b4:=Ow K;generalize kB K=K1 at*;generalize kH K=K2 at*;generalize x.1.2*(2:Int)^x.1.1=f' at*;generalize (2:Int)^x.1.1=z' at*;generalize n*(2:Int)^l=f at*;generalize (2:Int)^l=z at*;simp only[Aa,AB 188 5];simp[G,g1,V.eqL,V.eq1];by_cases W:x.1=(l,n)
  .obtain⟨rfl,rfl⟩:=a1.2 W;simp[AB 188 6,G,g2,AA];exact a7 _ (a2 W) _ _ rfl rfl
  .have U:¬(f'=f/\z'=z):=λh=>W (a1.1 h);have O:=a6 W;rw[if_neg U];by_cases c1:f<=f'
   .by_cases c2:f' <f+z
    .simp[AD];simp only[AB 188 7];simp[G,g1,w2,c1,c2];simp[AB 188 8,AB 188 4,w1,N];simpa using O
    .simp[AD];simp only[AB 188 7];simp[G,g1,w2,c1,c2];simp[AB 188 4,w1,N];simpa using O
   .simp[AD];simp only[AB 188 7];simp[G,g1,c1];simp[AB 188 4,w1,N];simpa using O
 .have b0:k=K.length:=AE;subst b0;rw[Bj,AN];rw[sE]at hI ⊢;exact a8 (Gc hI) _ rfl rfl rfl
def mm(K:KL)(hK:K.length<=2^30):∀(l:Nat)(n:Int),l<=12->0<=n->(n+1)*2^l<=4096->∀(H:List Row)(q:Nat)(_:H[q]?=some (Kf K))(_:Low H),
  FX 188 [.R q 0,.v (.agg [((n*2^l:Int):V),((2^l:Int):V)])] H [.v (.int .u64 ((MY K l n).getD 0)),.v (.bool (MY K l n).isSome)] H:=by
 intro l;induction l with
 |zero=>
  intro n hl h0 h1 H q O N;refine At (D6 188) rfl (ri _) N (by simp[D.lt]) ?_;have G:=gJ K hK 0 n (by simp at h1 ⊢;omega) H q O;simp only[MY];generalize a1:Ch K (0,n)=KF at*;simp at G;simp only[Zw,As 188,AB 188 0,AB 188 1,AB 188 2,AZ];simp;refine G _ ?_ ?_
  .rintro h rfl e J f4 f5;simp[AW 188,f4,f5]
  .rintro rfl e f0 f3 f6;simp only[AB 188 9];generalize Hj K 0 n=KA at*;cases KA<;>simp[f3,f6,AB 188 10,AA,AW 188]
 |succ l ih=>
  intro n hl h0 h1 H q O N;refine At (D6 188) rfl (ri _) N (by simp[D.lt]) ?_;have hp:(1:Int)<=2^l:=sR Ah;have e0:(2:Int)^(l+1)=2*2^l:=by rw[sb,sX]
  have e1:n*2^(l+1)=2*n*2^l:=by rw[e0,<-si,sX n 2]
  have e2:(n+1)*2^(l+1)=(2*n+1+1)*2^l:=by rw[e0,<-si];congr 1;omega
  rw[e2]at h1;have e3:(2*n+1)*(2:Int)^l=2*n*2^l+2^l:=by rw[uS,uh]
  have e4:(2*n+1+1)*(2:Int)^l=2*n*2^l+2^l+2^l:=by rw[uS,e3,uh]
  have a2:0<=2*n*(2:Int)^l:=uE AE AE;have G:=gJ K hK (l+1) n (by rw[e1,e0];omega) H q O;have hJ:Lows [.cells [((n*2^(l+1):Int):D),((2^(l+1):Int):D)]]:=by intro row U m;rw[rm.1 U];rfl
  have Z:=ih (2*n) AE AE AE _ q (AU _ O) (N.lows hJ);have W:=ih (2*n+1) AE AE AE _ q (AU _ O) (N.lows hJ);have g3:=(dA ⟨#[98,108,111,99,107]⟩ [IntKind.i64.wrap ((MY K l (2*n)).getD 0),IntKind.i64.wrap ((MY K l (2*n+1)).getD 0)] Ah Ac).fsp;have eb:An ⟨#[98,108,111,99,107]⟩=[98,108,111,99,107]:=by simp[An]
  have es:JO [98,108,111,99,107] [IntKind.i64.wrap ((MY K l (2*n)).getD 0),IntKind.i64.wrap ((MY K l (2*n+1)).getD 0)]=Wi ((MY K l (2*n)).getD 0) ((MY K l (2*n+1)).getD 0):=rfl;rw[eb,es]at g3;simp only[MY];generalize a1:Ch K (l+1,n)=KF at*;generalize Hj K (l+1) n=KA at*;generalize Wi ((MY K l (2*n)).getD 0) ((MY K l (2*n+1)).getD 0)=SW at*;generalize MY K l (2*n)=o1 at*;generalize MY K l (2*n+1)=o2 at*;rw[e3]at W;rw[e1]at G Z W ⊢;rw[e0]at G Z W ⊢;have w1:IntKind.i64.wrap (2^l:Int)=2^l:=AS AE AE;have w2:IntKind.i64.wrap (2*n*2^l+2^l:Int)=2*n*2^l+2^l:=AS AE AE;clear hJ;generalize 2*n*(2:Int)^l=a at*;generalize (2:Int)^l=p at*;have d1:(2*p).tdiv 2=p:=by rw[ub AE];omega
  have hz:¬2*p=1:=AE;simp[AM]at g3;simp at G Z W;simp only[Zw,As 188,AB 188 0,AB 188 1,AB 188 2,AZ];simp;refine G _ ?_ ?_
  .rintro h rfl e J f4 f5;simp[AW 188,f4,f5]
  .rintro rfl e f0 f3 f6;simp only[AB 188 9];cases KA with
   |false=>simp[f6,AB 188 10,AA,AW 188]
   |true=>
    simp[f0,f3,f6,hz,AD,AB 188 11,d1,w1];refine⟨_,_,Z,?_⟩;simp;simp only[AB 188 12];simp[d1,w1,w2];refine⟨_,_,W,?_⟩;simp;simp only[AB 188 13];simp;refine⟨_,_,g3 _,?_⟩;simp[AA,AW 188]
end
def nu(a b O:Int)(rs:List Rgt)(hn:rs.length<=2^20)(hb:∀r∈rs,isB (A7 r)/\(A7 r).length<=2^39)(H:List Row)(PR:Row)(Q:AExit->St->Prop)(hQ:Dr a b rs=false->∀e,AK e 0= .v (.int .u64 O)->AK e 1=(a:D)->AK e 2=(b:D)->AK e 9= .R H.length 0->AK e 11= .R (H.length+1) 0->Q (.exit 0) ⟨e,H++[PR,Kf (LV rs)]⟩)(hR:Dr a b rs=true->∀e J,AK e 10=((1:Int):D)->Q .ret ⟨e,H++J⟩):
  AX (.loop (lG 94 0)) Q ⟨[(0,.v (.int .u64 O)),(1,(a:D)),(2,(b:D)),(3,(rs.map GA:D)),(9,.R H.length 0),(11,.R (H.length+1) 0),(12,((0:Nat):D))],H++[PR,Kf []]⟩:=by
 refine Ag rs.length (λk s=>(∀j <k,Ct a b rs j=false)/\s=⟨[(0,.v (.int .u64 O)),(1,(a:D)),(2,(b:D)),(3,(rs.map GA:D)),(9,.R H.length 0),(11,.R (H.length+1) 0),(12,(k:D))],H++[PR,Kf (LV (rs.take k))]⟩) ⟨λj hj=>AE,by simp[LV]⟩ ?_;rintro k s hk ⟨hI,rfl⟩;simp only[Zw,BG 94 0,AB 94 5];simp;by_cases Z:k <rs.length
 .obtain⟨r,G⟩:∃r,rs[k]?=some r:=⟨_,rW Z⟩;obtain⟨b1,b2⟩:=hb r (rY G);have w1:=Bt k;have a6:Ct a b rs k=(decide (r.file <a)||(decide (b <r.file)||(EP rs r k||decide (65536 <((A7 r).length:Int))))):=by rw[Ct,G]
  have hT:Ct a b rs k=true->∀e J,AK e 10=((1:Int):D)->Q .ret ⟨e,H++J⟩:=λh=>hR (L3 Z h);have hF:Ct a b rs k=false->∀j <k+1,Ct a b rs j=false:=λh j hj=>by
   by_cases a1:j <k
   .exact hI j a1
   .have:j=k:=AE;rw[this];exact h
  have N:=nS r.file (A7 r) b1 b2;have e0:LV (rs.take (k+1))=LV (rs.take k)++[((0,r.file),CX r.file (A7 r))]:=by rw[rx,G];simp[LV]
  have e1:=Si (LV (rs.take k)) 0 r.file (CX r.file (A7 r));have e2:=Sh (LV (rs.take k)) (0,r.file) (CX r.file (A7 r));rw[<-e0]at e1 e2;simp only[Int.pow_zero,Int.mul_one]at e1;have l1:(kB (LV (rs.take k))).length=k:=by rw[Ow];simp[LV];omega
  have l2:(kH (LV (rs.take k))).length=k:=by rw[VS];simp[LV];omega
  have r1:AV (k+1) 16=true:=by simp[AV];omega
  have r2:AV (k+1) 8=true:=by simp[AV];omega
  rw[a6]at hT hF;unfold Kf;rw[e1,e2];clear e0;generalize kB (LV (rs.take k))=K1 at*;generalize kH (LV (rs.take k))=K2 at*;generalize CX r.file (A7 r)=lf at*;simp[AM]at N;rw[CF,AD];have a7:∀(_:¬r.file <a)(_:¬b <r.file)(_:¬65536 <((A7 r).length:Int))(P:Prop),P->P:=λ_ _ _ _ h=>h;by_cases U:r.file <a
  .have:=hT (by simp[U]);simp only[Aa,AB 94 7];simp[G,GA,AM,U,AB 94 8,AA];exact this _ _ rfl
  by_cases h2:b <r.file
  .have:=hT (by simp[h2]);simp only[Aa,AB 94 7];simp[G,GA,AM,U,h2,AB 94 8,AA];exact this _ _ rfl
  cases k with
  |zero=>
   have w0:IntKind.i64.wrap 1=1:=Ah;simp only[EP]at hT hF;by_cases W:65536 <((A7 r).length:Int)
   .have:=hT (by simp[W]);simp only[Aa,AB 94 7];simp[G,GA,AM,U,h2,W,AB 94 8,AA];exact this _ _ rfl
   .have:=hF (by simp[U,h2,W]);simp only[Aa,AB 94 7];simp[G,GA,AM,U,h2,W,AD];simp only[AB 94 9];simp[G,GA,AM,l1,r1,AQ];simp only[AB 94 10];simp[G,GA,AM,AQ];refine⟨_,_,⟨rfl,rfl⟩,_,N,?_⟩;simp[l2,r2];simp[AB 94 6,w0,Z];exact this 0 AE
  |succ j=>
   obtain⟨q,hq⟩:∃q,rs[j]?=some q:=⟨_,rW AE⟩;have w2:IntKind.i64.wrap (((j+1:Nat):Int)-1)=j:=by rw[AS AE AE];omega
   have w3:IntKind.i64.wrap (j:Int)=j:=AS AE AE;have h5:(0:Int) <(j:Int)+1:=AE;have h6:(0:Int)<=(j:Int)+1:=AE;simp at w1;simp only[EP,hq]at hT hF;by_cases h4:r.file<=q.file
   .have:=hT (by simp[h4]);simp only[Aa,AB 94 7];simp[U,h2,h4,h5,h6,w3,G,hq,GA,AM,AB 94 8,AA];exact this _ _ rfl
   by_cases W:65536 <((A7 r).length:Int)
   .have:=hT (by simp[W]);simp only[Aa,AB 94 7];simp[U,h2,W,h4,h5,h6,w3,G,hq,GA,AM,AB 94 8,AA];exact this _ _ rfl
   .have:=hF (by simp[U,h2,W,h4]);simp only[Aa,AB 94 7];simp[U,h2,W,h4,h5,h6,w3,G,hq,GA,AM,AD];simp only[AB 94 9];simp[G,GA,AM,l1,r1,AQ,h6];simp only[AB 94 10];simp[G,GA,AM,AQ,h6];refine⟨_,_,⟨rfl,rfl⟩,_,N,?_⟩;simp[l2,r2];simp[AB 94 6,w1,Z];exact this
 .have a2:k=rs.length:=AE;subst a2;rw[Bj,AN,sE];exact hQ (KO hI) _ rfl rfl rfl rfl rfl
def KN.step_i{S:List Int}{b:Int}{s s':KN}{q:Nat×Int}(h:s.step S b q=some s'):s'.i=s.i+1:=by
 unfold KN.step at h;cases hc:S[s.i]? with
 |none=>rw[hc]at h;cases h
 |some c=>
  rw[hc]at h;simp only at h;split at h
  .cases h
  .split at h
   .split at h
    .cases h
    .simp at h;subst h;rfl
   .simp at h;subst h;rfl
def KN.run_i{S:List Int}{b:Int}:∀{B:List (Nat×Int)}{s s':KN},KN.run S b s B=some s'->s'.i=s.i+B.length
 |[],s,s',h=>by simp[KN.run]at h;subst h;rfl
 |q::B,s,s',h=>by
  simp only[KN.run]at h;cases hs:s.step S b q with
  |none=>rw[hs]at h;cases h
  |some s1=>
   rw[hs]at h;have G:=KN.run_i h;have h2:=KN.step_i hs;rw[G,h2,sF];omega
def KN.run_snoc{S:List Int}{b:Int}:∀{B:List (Nat×Int)}{s s1 s2:KN}{q:Nat×Int},KN.run S b s B=some s1->s1.step S b q=some s2->KN.run S b s (B++[q])=some s2/\KN.kl S b s (B++[q])=KN.kl S b s B++(match s2.m.get (q.1,q.2)with|some (some v)=>[(q,v)]|_=>[])
 |[],s,s1,s2,q,h,hs=>by
  simp[KN.run]at h;subst h;refine⟨by simp[KN.run,hs],?_⟩;simp only[uU,KN.kl,hs,sk]
 |p::B,s,s1,s2,q,h,hs=>by
  simp only[KN.run]at h;cases hp:s.step S b p with
  |none=>rw[hp]at h;cases h
  |some t=>
   rw[hp]at h;obtain⟨G,h2⟩:=KN.run_snoc h hs;simp only[sw,KN.run,KN.kl,hp];exact⟨G,by rw[h2,rn]⟩
def P5(L R S:List Int):Row:= .cells [.v (AM .u64 L),.v (AM .u64 R),.v (AM .u8 S)]
def KN.run_app{S:List Int}{b:Int}:∀{N J:List (Nat×Int)}{G s1:KN},KN.run S b G N=some s1->KN.run S b G (N++J)=KN.run S b s1 J
 |[],J,G,s1,h=>by simp[KN.run]at h;subst h;rfl
 |p::N,J,G,s1,h=>by
  simp only[KN.run,sw]at h ⊢;cases hp:G.step S b p with
  |none=>rw[hp]at h;cases h
  |some t=>rw[hp]at h;exact KN.run_app h
def nr(a b a6:Int)(e9:a<=b)(K0:KL)(e7:K0.length<=2^20)(L R S:List Int)(hS:S.length=(BA a b 12 0).length)(d9:∀c∈S,0<=c)(H:List Row)(Q:AExit->St->Prop)(hQ:∀s,KN.run S b ⟨.nil,L,R,0⟩ (BA a b 12 0)=some s->∀(e:CC)(la O:Nat),s.L=L.drop la->s.R=R.drop O->la<=L.length->O<=R.length->AK e 0= .v (.int .u64 a6)->AK e 9= .R H.length 0->AK e 11= .R (H.length+1) 0->AK e 14=(la:D)->AK e 15=(O:D)->
   Q (.exit 2) ⟨e,H++[P5 L R S,Kf (K0++KN.kl S b ⟨.nil,L,R,0⟩ (BA a b 12 0))]⟩)(hR:KN.run S b ⟨.nil,L,R,0⟩ (BA a b 12 0)=none->∀e J,AK e 10=((2:Int):D)->Q .ret ⟨e,H++J⟩):
  AX (.loop (lG 94 1)) Q ⟨[(0,.v (.int .u64 a6)),(1,(a:D)),(9,.R H.length 0),(11,.R (H.length+1) 0),(13,.W 281 2 ((BA a b 12 0).map KZ)),(14,((0:Nat):D)),(15,((0:Nat):D)),(16,((0:Nat):D))],H++[P5 L R S,Kf K0]⟩:=by
 have e5:=E6 a b 12 0;have hB:=λx(hx:x∈BA a b 12 0)=>Dx (Int.le_refl 0) hx;generalize BA a b 12 0=B at*;obtain⟨G,hG⟩:∃G:Nat->KL,∀k,G k=K0++KN.kl S b ⟨.nil,L,R,0⟩ (B.take k):=⟨_,λ_=>rfl⟩;obtain⟨U,hU⟩:∃U:Nat->Option KN,∀k,U k=KN.run S b ⟨.nil,L,R,0⟩ (B.take k):=⟨_,λ_=>rfl⟩;have e1:U 0=some ⟨.nil,L,R,0⟩:=by rw[hU];rfl
 have c5:G 0=K0:=by rw[hG];simp[KN.kl]
 have b0:U B.length=KN.run S b ⟨.nil,L,R,0⟩ B:=by rw[hU,sE]
 have d8:G B.length=K0++KN.kl S b ⟨.nil,L,R,0⟩ B:=by rw[hG,sE]
 have c9:∀k st,U k=some st->k<=B.length->st.i=k:=λk st h hk=>by rw[hU]at h;have:=KN.run_i h;rw[this,sJ];simp;omega
 have d5:∀(T:Nat)(s:KN)(q:Nat×Int),U T=some s->B[T]?=some q->s.step S b q=none->U B.length=none:=by
  intro T s q h1 h2 h3;rw[hU]at h1;have e:B=B.take T++(q::B.drop (T+1)):=by obtain⟨g1,g2⟩:=rZ.1 h2;rw[<-g2,List.getElem_cons_drop,sa]
  rw[b0,e,KN.run_app h1];simp[KN.run,h3]
 have d6:∀(k:Nat)(st s2:KN)(q:Nat×Int),U k=some st->B[k]?=some q->st.step S b q=some s2->U (k+1)=some s2/\G (k+1)=G k++(match s2.m.get (q.1,q.2)with|some (some v)=>[(q,v)]|_=>[]):=by
  intro k st s2 q h1 h2 h3;rw[hU]at h1;have e4:B.take (k+1)=B.take k++[q]:=by rw[rx,h2];rfl
  obtain⟨n1,n2⟩:=KN.run_snoc h1 h3;rw[hU,hG,hG,e4];exact⟨n1,by rw[n2,rn]⟩
 rw[<-b0,<-d8]at hQ;rw[<-b0]at hR;clear hU hG;refine Ag B.length (λk s=>∃(st:KN)(la O:Nat),U k=some st/\st.L=L.drop la/\st.R=R.drop O/\(la<=L.length/\la<=k)/\(O<=R.length/\O<=k)/\(G k).length<=2^20+k/\
   s=⟨[(0,.v (.int .u64 a6)),(1,(a:D)),(9,.R H.length 0),(11,.R (H.length+1) 0),(13,.W 281 2 (B.map KZ)),(14,(la:D)),(15,(O:D)),(16,(k:D))],H++[P5 L R S,Kf (G k)]⟩)
  ⟨_,0,0,e1,Ac,Ac,Ac,Ac,by rw[c5];omega,by rw[c5]⟩ ?_
 rintro k s hk ⟨st,la,O,Z,hL,a7,⟨b6,f2⟩,⟨c4,f9⟩,f1,rfl⟩;simp only[Zw,BG 94 1,AB 94 17];simp;by_cases a8:k <B.length
 .obtain⟨⟨l,n⟩,hx⟩:∃q,B[k]?=some q:=⟨_,rW a8⟩;obtain⟨c,hc⟩:∃c,S[k]?=some c:=⟨_,rW AE⟩;have f0:=d9 c (rY hc);have d7:st.i=k:=c9 k st Z hk;have w1:=Bt k;have wl:IntKind.i64.wrap ((la:Int)+1)=(la:Int)+1:=AS AE AE;have wr:IntKind.i64.wrap ((O:Int)+1)=(O:Int)+1:=AS AE AE;obtain⟨b1,b2,b3,b4⟩:=hB _ (rY hx);simp only at b1 b2 b3 b4;have f3:(1:Int)<=2^l:=sR Ah;have ea:(n+1)*(2:Int)^l=n*2^l+2^l:=Kx _ _;have d2:(B.map KZ)[k]?=some (.agg [((n*2^l:Int):V),((2^l:Int):V)]):=by rw[rk,hx];rfl
  have d3:(S.map (V.int .u8))[k]?=some (.int .u8 c):=by rw[rk,hc];rfl
  have N:st.step S b (l,n)=if 1 <c then none else if c=1 then (match st.side (decide (b <n*2^l))with|[]=>none|v::t=>some ⟨(st.m.set (l,n) none).set (l,n) (some v),if decide (b <n*2^l) then st.L else t,if decide (b <n*2^l) then t else st.R,st.i+1⟩) else some ⟨st.m.set (l,n) none,st.L,st.R,st.i+1⟩:=by unfold KN.step;rw[d7,hc]
  have a1:=d5 k st (l,n) Z hx;have a2:=λs2=>d6 k st s2 (l,n) Z hx;have l1:=Ow (G k);have l2:=VS (G k);have r1:AV ((kB (G k)).length+1) 16=true:=by simp[AV];omega
  have r2:AV ((kH (G k)).length+1) 8=true:=by simp[AV];omega
  have c7:=λv=>Si (G k) l n v;have c8:=λv=>Sh (G k) (l,n) v;have m0:∀o,(st.m.set (l,n) o).get ((l:Int),n)=some o:=λo=>by rw[OM.get_set,if_pos rfl]
  have m1:∀o o',((st.m.set (l,n) o).set (l,n) o').get ((l:Int),n)=some o':=λo o'=>by rw[OM.get_set,if_pos rfl]
  have c6:∀v,(G k++[((l,n),v)]).length<=2^20+(k+1):=λv=>by simp;omega
  clear d5 d6 c9 hB l1 l2;rw[CF,AD];simp only[P5,Kf,AM]at*;simp only[AB 94 19];simp[d3];by_cases c1:1 <c
  .rw[if_pos c1]at N;simp[c1,AB 94 20,AA];exact hR (a1 N) _ _ rfl
  rw[if_neg c1]at N;simp[c1,AD];simp only[AB 94 21];simp[d3];by_cases c2:c=0
  .rw[Bj]at N;obtain⟨n1,n2⟩:=a2 _ N;simp only[m0,sk]at n2;simp[c2,AN,AB 94 18,w1,a8];exact⟨_,n1,la,hL,O,a7,⟨b6,AE⟩,⟨c4,AE⟩,by rw[n2];omega,by rw[n2];simp⟩
  .have c3:c=1:=AE;rw[if_pos c3]at N;simp[c2];simp only[Aa,AB 94 22];simp[d2,r1,-List.getElem?_map];simp only[AB 94 23];simp[d2,-List.getElem?_map];by_cases d4:n*2^l <a
   .have c0:¬b <n*2^l:=AE;simp only[c0,decide_false,KN.side,rz,if_false,hL]at N;simp[d4];simp only[AB 94 24];simp;by_cases b9:la <L.length
    .obtain⟨v,hv⟩:∃v,L[la]?=some v:=⟨_,rW b9⟩;have hd:L.drop la=v::L.drop (la+1):=by obtain⟨g1,g2⟩:=rZ.1 hv;rw[<-g2,List.getElem_cons_drop]
     rw[hd]at N;obtain⟨n1,n2⟩:=a2 _ N;simp only[m1]at n2;have W:¬(L.length<=la):=AE;have b5:(L.map (V.int .u64))[la]?=some (.int .u64 v):=by rw[rk,hv];rfl
     simp[W];simp only[AB 94 26];simp[b5,r2,-List.getElem?_map];simp[AB 94 27,wl,AB 94 18,w1,a8];exact⟨_,n1,la+1,rfl,O,a7,⟨AE,AE⟩,⟨c4,AE⟩,by rw[n2];exact c6 v,by rw[n2,c7,c8];simp⟩
    .have hd:L.drop la=[]:=List.drop_eq_nil_of_le AE;rw[hd]at N;have W:L.length<=la:=AE;simp[W,AB 94 25,AA];exact hR (a1 N) _ _ rfl
   .have c0:b <n*2^l:=AE;simp only[c0,decide_true,KN.side,if_true,a7]at N;simp[d4];simp only[AB 94 28];simp;by_cases b9:O <R.length
    .obtain⟨v,hv⟩:∃v,R[O]?=some v:=⟨_,rW b9⟩;have hd:R.drop O=v::R.drop (O+1):=by obtain⟨g1,g2⟩:=rZ.1 hv;rw[<-g2,List.getElem_cons_drop]
     rw[hd]at N;obtain⟨n1,n2⟩:=a2 _ N;simp only[m1]at n2;have W:¬(R.length<=O):=AE;have b5:(R.map (V.int .u64))[O]?=some (.int .u64 v):=by rw[rk,hv];rfl
     simp[W];simp only[AB 94 30];simp[b5,r2,-List.getElem?_map];simp[AB 94 31,wr,AB 94 18,w1,a8];exact⟨_,n1,la,hL,O+1,rfl,⟨b6,AE⟩,⟨AE,AE⟩,by rw[n2];exact c6 v,by rw[n2,c7,c8];simp⟩
    .have hd:R.drop O=[]:=List.drop_eq_nil_of_le AE;rw[hd]at N;have W:R.length<=O:=AE;simp[W,AB 94 29,AA];exact hR (a1 N) _ _ rfl
 .have e3:k=B.length:=AE;subst e3;rw[Bj,AN];exact hQ st Z _ la O hL a7 b6 c4 rfl rfl rfl rfl rfl
theorem qS(rs:List Rgt)(hn:rs.length<=2^20)(hb:∀r∈rs,isB (A7 r)/\(A7 r).length<=2^39)(a b:Int)(hk:Sm a b)(L R S:List Int)(hS:S.length<=2^40)(c3:∀c∈S,0<=c)(h:List Row)(hl:Low h)(O:Int):
  FX 94 [.v (.int .u64 O),a,b,(rs.map GA:D),.v (.agg [AM .u64 L,AM .u64 R,AM .u8 S])] h [((DW O a b rs L R S:Int):D)] h:=by
 refine At (D6 94) rfl (ri _) hl (by simp[D.lt]) ?_;obtain⟨⟨d2,d7⟩,⟨d8,d3⟩,b0⟩:=hk;have U:=λQ=>nu a b O rs hn hb h (P5 L R S) Q;have a1:=λhS Q=>nr a b O b0 (LV rs) (by simp[LV];omega) L R S hS c3 h Q;have a2:=mu a b b0 12 0 AE AE Ah (h++[P5 L R S,Kf (LV rs)]) (hl.lows (by intro row N n;simp only[rj,sK,or_false]at N;rcases N with rfl|rfl<;>rfl))
 have b3:KZ (12,0)= .agg [((0:Int):V),((4096:Int):V)]:=rfl;rw[b3]at a2;have a6:=λK hK=>mm K hK 12 0 Ah Ah Ah (h++[P5 L R S,Kf K]) (h.length+1) Ac (hl.lows (by intro row N n;simp only[rj,sK,or_false]at N;rcases N with rfl|rfl<;>rfl))
 have a8:(2:Int)^12=4096:=Ah;rw[a8,Int.zero_mul]at a6;have d4:=E6 a b 12 0;obtain⟨C,G⟩:∃C,DW O a b rs L R S=C:=⟨_,rfl⟩;rw[G];unfold DW at G;have N:P5 L R S= .cells [.v (AM .u64 L),.v (AM .u64 R),.v (AM .u8 S)]:=rfl;have n1:¬a <0:=AE;have n2:¬4095 <b:=AE;have n3:¬b <a:=AE;have c5:Kf []= .cells [.W 281 2 [],.W 47 1 []]:=rfl;have c7:=λs hw=>XU (S:=S) (L:=L) (R:=R) (s:=s) d2 d3 (rs:=rs) hw;have b2:=λs=>KN.run_i (S:=S) (b:=b) (B:=BA a b 12 0) (s:=⟨.nil,L,R,0⟩) (s':=s);have c6:(LV rs++KN.kl S b ⟨.nil,L,R,0⟩ (BA a b 12 0)).length<=2^30:=by
  have:∀(B:List (Nat×Int))(s:KN),(KN.kl S b s B).length<=B.length:=by
   intro B;induction B with
   |nil=>intro s;simp[KN.kl]
   |cons q B ih=>
    intro s;simp only[KN.kl];split
    .simp
    .rename_i s' _;have:=ih s';rw[re,sF];split<;>simp<;>omega
  have:=this (BA a b 12 0) ⟨.nil,L,R,0⟩;simp[LV]at *;omega
 generalize (rs.map GA)=RR at*;simp only[Zw,As 94,AB 94 0,AB 94 1,AZ];simp[AM];simp[n1,n2,n3,AD];simp only[AB 94 3,AB 94 4];simp;rw[N]at U a1 a2 a6;rw[c5]at U;simp[AM]at U;refine U _ ?_ ?_
 .intro hw e f0 f1 f2 f9 f11;rw[hw]at G;simp only[rz,if_false]at G;simp only[AB 94 11];simp[f0,f1,f2,f9,f11,AQ,D.vs?,D.v?];simp[AM]at a2;refine⟨_,_,a2,?_⟩;simp only[AB 94 12];simp;by_cases c4:(BA a b 12 0).length=S.length
  .have Z:((BA a b 12 0).length:Int)=S.length:=AE;simp[Z];simp only[AB 94 14,AB 94 15,AB 94 16];simp;have b1:=a1 c4.symm;simp[AM]at b1;refine b1 _ ?_ ?_
   .intro s hs e2 la ra c8 c9 d5 d6 g0 g9 b5 b6 b9;have hi:=b2 s hs;rw[hs]at G;simp only at G;have a7:s.ok S=(decide (la=L.length)&&decide (ra=R.length)):=by
     unfold KN.ok;have h1:(s.i:Int)=S.length:=by rw[hi];simp;omega
     rw[c8,c9];simp only[h1,decide_true,sV,List.length_drop]
     congr 1<;>exact decide_eq_decide.2 AE
    rw[a7]at G;simp only[AB 94 32];simp[g0,g9,b5,b6,b9];by_cases hL:la=L.length
    .by_cases hR:ra=R.length
     .have q1:=a6 _ c6;rw[c7 s hw hs]at q1;simp[hL,hR]at G;generalize M1 (MW s.m rs).get 12 0=BO at*;simp[AM]at q1;simp[hL,hR];simp only[AB 94 34];simp[AQ,D.vs?,D.v?];refine⟨_,_,q1,?_⟩;simp;simp only[AB 94 35];simp;by_cases W:BO.getD 0=O
      .rw[if_pos W]at G;subst G;simp[W,AB 94 37,AA,AW 94]
      .rw[if_neg W]at G;subst G;simp[W,AB 94 36,AA,AW 94]
     .have c2:¬(ra:Int)=R.length:=AE;simp[hL,hR]at G;subst G;simp[hL,c2,AB 94 33,AA,AW 94]
    .have c1:¬(la:Int)=L.length:=AE;simp[hL]at G;subst G;simp[c1,AB 94 33,AA,AW 94]
   .intro hs e2 J b4;rw[hs]at G;simp at G;subst G;simp[AW 94,b4]
  .have Z:¬((BA a b 12 0).length:Int)=S.length:=AE;have c0:C=2:=by
    cases hs:KN.run S b ⟨.nil,L,R,0⟩ (BA a b 12 0)with
    |none=>rw[hs]at G;exact G.symm
    |some s=>
     have hi:=b2 s hs;rw[hs]at G;simp only at G;have a7:s.ok S=false:=by unfold KN.ok;rw[hi];simp only[tI,Z,decide_false,uM]
     rw[a7]at G;simpa using G.symm
   subst c0;simp[Z,AB 94 13,AA,AW 94]
 .intro hw e J f10;rw[hw]at G;simp at G;subst G;simp[AW 94,f10]
section
def AC.L:AC->AC
 | .seq a _=>a
 | .block _ c=>c
 |_=> .skip
def AC.R:AC->AC
 | .seq _ b=>b
 |_=> .skip
def Mf{α β:Type}{f:α->List β}{s:Nat}(G:∀x,(f x).length=s):∀(l:List α)(i:Nat)(x:α),l[i]?=some x->((l.flatMap f).drop (i*s)).take s=f x
 |[],i,x,h=>by simp at h
 |y::l,0,x,h=>by simp only[uj,rV]at h;subst h;have:=G y;simp[r7,this]
 |y::l,i+1,x,h=>by
  have J:=G y;simp only[tf]at h;rw[r7,tZ,Nat.add_comm,<-List.drop_drop];have:(f y++l.flatMap f).drop s=l.flatMap f:=by rw[<-J];simp
  rw[this];exact Mf G l i x h
def Kj{α β:Type}{f:α->List β}{s:Nat}(G:∀x,(f x).length=s):∀(l:List α)(i:Nat)(y:α),i <l.length->(l.flatMap f).take (i*s)++(f y++(l.flatMap f).drop (i*s+s))=(l.set i y).flatMap f
 |[],i,y,h=>by simp at h
 |z::l,0,y,h=>by have:=G z;simp[r7,<-this]
 |z::l,i+1,y,h=>by
  have J:=G z;have O:=Kj G l i y (by simpa using h);rw[List.set_cons_succ,r7,r7,<-O,tZ];have N:(f z++l.flatMap f).take (i*s+s)=f z++(l.flatMap f).take (i*s):=by
   rw[List.take_append,J,sN AE]
   congr 2;omega
  have e2:(f z++l.flatMap f).drop (i*s+s+s)=(l.flatMap f).drop (i*s+s):=by
   rw[List.drop_append,J,List.drop_of_length_le AE,uU]
   congr 1;omega
  rw[N,e2,rn]
def Fj{α β:Type}{f:α->List β}{s:Nat}(G:∀x,(f x).length=s)(l:List α):(l.flatMap f).length=l.length*s:=by
 induction l with
 |nil=>simp
 |cons x l ih=>simp only[r7,re,ih,G,sF,tZ];omega
inductive Th.wb (n:Nat):Th->Prop
 |mk {cs vs ps} (h0:∀c∈cs,i64 c) (h1:cs.length<=n) (h2:vs.length<=n) (h3:ps.length<=n) (h4:∀x∈vs,Val.ok x) (h5:∀p∈ps,Th.wb n p):Th.wb n (.mk cs vs ps)
abbrev Th.wee:Th->Prop:=Th.wb 1000
abbrev Th.wid:Th->Prop:=Th.wb 2100
variable {m n:Nat}
theorem Th.wb.mono(G:n<=m){t:Th}(h:t.wb n):t.wb m:=by
 induction h with
 |mk h0 h1 h2 h3 h4 _ ih=>exact .mk h0 AE AE AE h4 ih
def Th.wee.wid{t:Th}(h:t.wee):t.wid:=Th.wb.mono Ah h
theorem Th.wb.fit(J:n<=2^20){t:Th}(h:t.wb n):t.ok/\t.small:=by
 induction h with
 |mk h0 h1 h2 h3 h4 _ ih=>exact⟨.mk AE AE AE h4 λp G=>(ih p G).1,.mk AE AE AE λp G=>(ih p G).2⟩
def Th.wid.fit{t:Th}(h:t.wid):t.ok/\t.small:=Th.wb.fit Ah h
def KS:∀(a b:List Th),Th.sizes (a++b)=Th.sizes a+Th.sizes b
 |[],b=>by simp[Th.sizes]
 |x::a,b=>by simp[Th.sizes,KS a b,Nat.add_assoc]
def Na:∀(a:List Th)(k:Nat)(p q:Th),a[k]?=some p->Th.sizes (a.set k q)<=Th.sizes a+q.size-p.size/\p.size<=Th.sizes a
 |x::a,0,p,q,h=>by simp at h;subst h;simp[Th.sizes];omega
 |x::a,k+1,p,q,h=>by have:=Na a k p q (by simpa using h);simp[Th.sizes];omega
def TH(n:Nat):Th.sizes (List.replicate n (.mk [] [] []))=n:=by
 induction n with
 |zero=>rfl
 |succ n ih=>rw[u7,Th.sizes,ih];simp[Th.size,Th.sizes];omega
def T26(n:Nat)(t:Th)(a h b:Int):Prop:=∃t2:Th,t2.wb (2*n+100)/\t2.size<=t.size+200/\PX 26 [t.V,.int .i64 a,.int .i64 h,.int .i64 b] [t2.V]
def T26.of{cs:List Int}{vs:List Val}{ps:List Th}(_hw:(Th.mk cs vs ps).wb n){a h b:Int}{cs2:List Int}{vs2:List Val}{ps2:List Th}(G:∀c∈cs2,i64 c)(h1:cs2.length<=2*n+100)(h2:vs2.length<=2*n+100)(h3:ps2.length<=2*n+100)(J:∀x∈vs2,Val.ok x)(N:∀p∈ps2,p.wb (2*n+100))(U:Th.sizes ps2<=Th.sizes ps+200)(O:PX 26 [(Th.mk cs vs ps).V,.int .i64 a,.int .i64 h,.int .i64 b] [(Th.mk cs2 vs2 ps2).V]):T26 n (.mk cs vs ps) a h b:=
 ⟨_,.mk G AE AE AE J N,by simp only[Th.size];omega,O⟩
def V7:AC:=la 26
def Hl:AC:=V7.R.R.R.R.R
def Hk:AC:=Hl.R
def JI:AC:=Hk.L.R.L
def bZ:(gA 26)= .seq (.reg (oG 26 0) [1,2,3,4,8]) (.seq (.reg (oG 26 1) [1,2,3,4,8,9]) (.seq (.reg (oG 26 2) [1,2,3,4,8,9]) (.seq (.reg (oG 26 3) [1,2,3,4,8,9]) (.seq (.reg (oG 26 4) [1,2,3,4,8,9]) Hl)))):=(As 26 :)
def I5:Nat->Th
 |0=> .mk [] [] []
 |k+1=> .mk [] [] [I5 k]
def QE:∀k,(I5 k).wb 100/\(I5 k).size=k+1
 |0=>⟨.mk Ac Ac Ac Ac Ac Ac,rfl⟩
 |k+1=>by obtain⟨a,c⟩:=QE k;exact⟨.mk Ac Ac Ac Ac Ac (by simpa using a),by simp[I5,Th.size,Th.sizes,c];omega⟩
def aB(k:Nat):(I5 k).V= .agg [.list [],.list [],.list (match k with|0=>[]|j+1=>[(I5 j).V])]:=by cases k<;>simp[I5,Th.V_eq,AM]
def fT(t:Th):List V:=[AM .i64 t.cs,.list (t.vs.map Val.V),.list (t.ps.map Th.V)]
theorem JD(t:Th):(fT t).length=3:=rfl
def Ss(l:List Th):(l.map Th.V).flatMap V.cells=l.flatMap fT:=by
 induction l with
 |nil=>rfl
 |cons x l ih=>
  obtain⟨c,v,p⟩:=x;rw[rq,r7,r7,ih,Th.V_eq];rfl
def QT(l:List Int):(l.map (V.int .i64)).flatMap V.cells=l.map (V.int .i64):=by
 induction l with
 |nil=>rfl
 |cons x l ih=>rw[rq,r7,ih];rfl
section
variable {cs:List Int} {vs:List Val} {ps:List Th} (h1:cs.length<=5000) (h2:vs.length<=5000) (h3:ps.length<=5000) (a h b:Int)
def z26:Row:= .cells [.W 3 1 [],.W 171 3 [],.W 58 3 []]
def UI(a h b:Int):CC:=[(1,.v (.int .i64 a)),(2,.v (.int .i64 h)),(3,.v (.int .i64 b)),(4,.R 0 0),(8,.R 1 0),(9,.R 2 0)]
def VY(l:List Val):BZ 3 (l.map Val.V)=true:=by cases l<;>rfl
def gl(l:List Th):BZ 3 (l.map Th.V)=true:=by
 cases l with
 |nil=>rfl
 |cons x l=>obtain⟨c,v,p⟩:=x;simp[BZ,Th.V_eq,V.cells]
def Yp(l:List Int):BZ 1 (l.map (.int .i64))=true:=by cases l<;>rfl
include h1 h2 h3
def Uy(G J:Bool)(hb:G=true->J=false)(hc:G=true->cs≠[])(hp:J=true->ps≠[])(Q:AExit->St->Prop)(O:∀k,AX Hl Q ⟨UI a h b,[.cells (Th.mk cs vs ps).cells,z26,.cells [if G then .sr 3 cs.length else .W 3 1 (cs.map (.int .i64)),.W 171 3 (vs.map Val.V),if J then .sr 3 ps.length else .W 58 3 (ps.map Th.V)]]++
   (if G then [.cells (((cs.map (V.int .i64)).flatMap V.cells).map .v++List.replicate k .any)] else [])++(if J then [.cells (((ps.map Th.V).flatMap V.cells).map .v++List.replicate k .any)] else [])⟩):
  AX (gA 26) Q ⟨AZ [.v (Th.mk cs vs ps).V,(a:D),(h:D),(b:D)],[]⟩:=by
 have r1:AV cs.length 8=true:=by simp[AV];omega
 have r2:AV vs.length 24=true:=by simp[AV];omega
 have Z:AV ps.length 72=true:=by simp[AV];omega
 have g1:=Yp cs;have g2:=VY vs;have N:=gl ps;simp only[Th.V_eq,Th.cells,Th.cs,Th.vs,Th.ps,z26,UI,AM]at*;rw[bZ];simp only[AH,AJ,AB 26 0,AZ];simp;simp only[AB 26 1];simp[AQ];simp only[AB 26 2];cases G with
 |false=>
  simp[r1,g1,AQ]
  left
  simp only[AB 26 3];simp[r2,g2];simp only[AB 26 4];cases J with
  |false=>
   simp[Z,N,AQ]
   left
   simpa using O 0
  |true=>
   have W:ps≠[]:=hp rfl;simp[Z,N,AQ,W]
   right
   intro k;simpa using O k
 |true=>
  have W:cs≠[]:=hc rfl;have U:=hb rfl;subst U;simp[r1,g1,AQ,W]
  right
  intro k;simp only[AB 26 3];simp[r2,g2];simp only[AB 26 4];simp[Z,N,AQ]
  left
  simpa using O k
def DI(cs:List Int)(vs:List Val)(ps:List Th)(c0:D)(X:List Row):List Row:= .cells (Th.mk cs vs ps).cells::z26:: .cells [c0,.W 171 3 (vs.map Val.V),.W 58 3 (ps.map Th.V)]::X
omit h1 h2 in
def pY(Z:ps=[]\/¬0 <Af a 3)(U:D)(X:List Row)(Q:AExit->St->Prop)(J:∀e,AK e 2=(h:D)->AK e 3=(b:D)->AK e 4= .R 0 0->AK e 8= .R 1 0->AK e 9= .R 2 0->AX Hk Q ⟨e,DI cs vs ps U X⟩):
  AX Hl Q ⟨UI a h b,DI cs vs ps U X⟩:=by
 have W:=(LZ a 3 Ah).fsp;simp at W;rw[show Hl= .seq (.seq (.reg (oG 26 5) _) (.cond (.t 42 false) _ .skip)) Hk from rfl];generalize Hk=C at*;simp only[AH,AJ,AO,AB 26 5,UI,DI]at J ⊢;by_cases G:ps=[]
 .subst G;simp[AD]
  try simp at J
  exact J _ rfl rfl rfl rfl rfl
 .have O:=Z.resolve_left G;have N:0 <ps.length:=List.length_pos_iff.2 G;simp[N];refine⟨_,_,W _,?_⟩;simp[O,AD]
  try simp at J
  exact J _ rfl rfl rfl rfl rfl
theorem qH(hn:ps=[]\/¬0 <Af a 3){cs2:List Int}{vs2:List Val}{ps2:List Th}(hw:AX JI (λe s=>(e= .normal\/e= .exit 0)/\AK s.e 8= .R 1 0/\AK s.e 9= .R 2 0/\∃R J,s.h=R::z26:: .cells [.W 3 1 (cs2.map (.int .i64)),.W 171 3 (vs2.map Val.V),.W 58 3 (ps2.map Th.V)]::J)
   ⟨[(3,(b:D)),(4,.R 0 0),(8,.R 1 0),(9,.R 2 0),(65,((Af h 9:Int):D))],DI cs vs ps (.W 3 1 (cs.map (.int .i64))) []⟩):
  PX 26 [(Th.mk cs vs ps).V,a,h,b] [(Th.mk cs2 vs2 ps2).V]:=by
 refine BS 26 ?_;refine Uy h1 h2 h3 a h b false false (λh=>by cases h) (λh=>by cases h) (λh=>by cases h) _ ?_;intro _;have U:=(LZ h 9 Ah).fsp;simp at U;refine pY h3 a h b hn _ [] _ ?_;intro e W Z f4 f8 f9;rw[show Hk= .seq (.seq (.reg (oG 26 9) _) (.block 0 JI)) (.seq (.reg (oG 26 39) _) .ret) from rfl];simp only[AH,AJ,AY,AB 26 9];simp[W];refine⟨_,_,U _,?_⟩;simp[Z,f4,f8,f9];refine Ap _ ?_ hw;rintro e ⟨se,sh⟩ ⟨he,G,N,R,J,O⟩;simp only at G N O;subst O;rcases he with rfl|rfl<;>simp[AB 26 39,z26,G,N,AQ,AA,AW 26,D.vs?,D.v?,Th.V_eq,AM]
omit h1 h2 h3 in
theorem Xg{a:Int}(l:List Int)(G:0<=a)(h:a <l.length):∃x∈l,(l.map (V.int .i64))[a.toNat]?=some (x:V):=by have hx:l[a.toNat]?=some (l[a.toNat]'AE):=rW _;exact⟨_,rY hx,by rw[rk,hx];rfl⟩
end
end
def M8(cs:List Int)(k m:Nat):List D:=((cs.reverse.take k++cs.drop k).map λx=>D.v (.int .i64 x))++List.replicate m .any
def Uj(cs:List Int)(k m:Nat)(G:k<=cs.length):(M8 cs k m).length=cs.length+m:=by simp[M8];omega
def Us(X R:List D)(p q:D)(k:Nat)(h:k=X.length):AQ (X++p::R) k [q]=X++q::R:=by subst h;simp[AQ,List.drop_append]
def Ui(cs:List Int)(k m:Nat)(x:Int)(O:k <cs.length)(hx:cs.reverse[k]?=some x):AQ (M8 cs k m) k [D.v (.int .i64 x)]=M8 cs (k+1) m:=by
 have J:cs.drop k=cs[k]::cs.drop (k+1):=tn O;have N:(cs.reverse.take k).length=k:=by simp;omega
 obtain⟨A,G⟩:∃A,cs.reverse.take k=A:=⟨_,rfl⟩;unfold M8;rw[rx,hx,J,G];rw[G]at N;generalize cs.drop (k+1)=B;generalize cs[k]=y;clear G J hx;subst N;have e:((A++y::B).map λx=>D.v (.int .i64 x))++List.replicate m D.any=(A.map λx=>D.v (.int .i64 x))++(D.v (.int .i64 y)::((B.map λx=>D.v (.int .i64 x))++List.replicate m D.any)):=Ac;rw[e,Us _ _ _ _ _ Ac];simp
def Uk(cs:List Int)(m:Nat):D.vs? ((M8 cs cs.length m).take (cs.length*1))=some ((cs.reverse.map (V.int .i64)).flatMap V.cells):=by
 have e0:cs.reverse.take cs.length=cs.reverse:=sN Ac;unfold M8;rw[e0,List.drop_length,sk,QT,Nat.mul_one,List.take_left' Ac];have:=Le (cs.reverse.map (V.int .i64))
 rwa [tP]at this
section
variable {cs:List Int} {vs:List Val} {ps:List Th} (h1:cs.length<=5000) (h2:vs.length<=5000) (h3:ps.length<=5000) (a h b:Int)
include h1 h2 h3
theorem Zk(G:cs≠[])(Q:AExit->St->Prop)(J:∀k,AX Hl Q ⟨UI a h b,DI cs vs ps (.sr 3 cs.length) [.cells (((cs.map (V.int .i64)).flatMap V.cells).map .v++List.replicate k .any)]⟩):
  AX (gA 26) Q ⟨AZ [.v (Th.mk cs vs ps).V,(a:D),(h:D),(b:D)],[]⟩:=
 Uy h1 h2 h3 a h b true false (λ_=>rfl) (λ_=>G) (λh=>by cases h) Q J
def jL(ys:List V):AExit->St->Prop:=λe s=>(match e with| .exit _=>False|_=>True)/\∃(ds cs:List D)(i r m sz:Nat)(xs:List V),Dg s (gR 26)=some [.agg ds]/\ds[i]?=some (.sr r m)/\s.h[r]?=some (.cells cs)/\xs.length=m/\(∀x∈xs,x.cells.length=sz)/\
   D.vs? (cs.take (m*sz))=some (xs.flatMap V.cells)/\ds.set i (.v (.list xs))=ys.map .v
theorem jQ(Z:cs≠[])(hn:ps=[]\/¬0 <Af a 3)(h7:Af h 9=7):AX (gA 26) (jL [AM .i64 cs.reverse,(vs.map Val.V:V),(ps.map Th.V:V)])
  ⟨AZ [.v (Th.mk cs vs ps).V,(a:D),(h:D),(b:D)],[]⟩:=by
 obtain⟨P,hP⟩:∃P,jL [AM .i64 cs.reverse,(vs.map Val.V:V),(ps.map Th.V:V)]=P:=⟨_,rfl⟩;rw[hP];refine Zk h1 h2 h3 a h b Z _ ?_;intro G;have q2:=(LZ h 9 Ah).fsp;rw[h7]at q2;simp at q2;have key:=pY (cs:=cs) (vs:=vs) (ps:=ps) h3 a h b hn (.sr 3 cs.length) [.cells (((cs.map (V.int .i64)).flatMap V.cells).map .v++List.replicate G .any)] P
 with_reducible refine key ?_
 clear key;intro e f2 f3 f4 f8 f9;rw[QT,show Hk= .seq (.seq (.reg (oG 26 9) _) (.block 0 JI)) (.seq (.reg (oG 26 39) _) .ret) from rfl];simp only[AH,AJ,AY,AB 26 9];simp[f2];refine⟨_,_,q2 _,?_⟩;simp[f3,f4,f8,f9];simp only[JI,Hk,Hl,V7,la,AC.L,AC.R,AH,AJ,AO,AB 26 12,AB 26 14,AB 26 16,AB 26 18,AB 26 20,AB 26 22,AB 26 27,AB 26 34];simp;simp only[AY,AB 26 35];simp;have W:(cs.map (V.int .i64)).map D.v++List.replicate G D.any=M8 cs 0 G:=by simp[M8,ud]
 refine Ab cs.length (λk=>⟨[(4,.R 0 0),(8,.R 1 0),(9,.R 2 0),(14,(k:D))],DI cs vs ps (.sr 3 cs.length) [.cells (M8 cs k G)]⟩) (by rw[<-W];simp[DI]) ?_;intro k hk;simp only[Zw,BG 26 2,AB 26 36,DI,z26];simp;by_cases U:k <cs.length
 .obtain⟨x,hx⟩:∃x,cs[cs.length-1-k]?=some x:=⟨_,rW AE⟩;have a6:cs.reverse[k]?=some x:=by rw[List.getElem?_reverse U];exact hx
  have w1:=Bt k;have w2:IntKind.i64.wrap ((cs.length:Int)-1)=cs.length-1:=AS AE AE;have w3:IntKind.i64.wrap ((cs.length:Int)-1-k)=cs.length-1-k:=AS AE AE;have a2:((cs.length:Int)-1-k).toNat=cs.length-1-k:=AE;have a7:(0:Int)<=(cs.length:Int)-1-k:=AE;have a8:(cs.length:Int)-1-k <cs.length:=AE;have a1:(k:Int)<=cs.length-1:=AE;have O:=Ui cs k G x U a6;have N:=Uj cs k G hk;have J:k+1<=cs.length+G:=AE;rw[if_pos U,AD];simp only[Aa,AB 26 38];simp[Th.cells,Th.cs,Th.vs,Th.ps,AM,w2,w3,a2,a1,hx,N,J,O,U];simp[AB 26 37,w1]
 .obtain rfl:k=cs.length:=AE;rw[Bj,AN];simp[AB 26 39,AQ,AA];rw[<-hP];refine⟨trivial,[.sr 3 cs.length,(vs.map Val.V:D),(ps.map Th.V:D)],_,0,3,cs.length,1,cs.reverse.map (V.int .i64),?_,rfl,rfl,Ac,?_,Uk cs G,?_⟩
  .simp[AW 26,D.one?]
  .intro x hx;obtain⟨y,_,rfl⟩:=rl.1 hx;rfl
  .simp[AM]
theorem v26(G:cs≠[])(N:ps=[]\/¬0 <Af a 3)(J:Af h 9=7):PX 26 [(Th.mk cs vs ps).V,a,h,b] [(Th.mk cs.reverse vs ps).V]:=by rw[Th.V_eq cs.reverse vs ps];have f:FX 26 [.v (Th.mk cs vs ps).V,a,h,b] [] [.v (.agg [AM .i64 cs.reverse,(vs.map Val.V:V),(ps.map Th.V:V)])] []:=Lo (D6 26) rfl (jQ h1 h2 h3 a h b G N J);exact Dh (args:=[_,_,_,_]) (rets:=[_]) f
end
section
def No(k:Nat):D:=match k with|0=> .W 58 3 []|j+1=> .v (.list [(I5 j).V])
theorem XI:No 0= .W 58 3 []:=rfl
theorem XG(k:Nat):No (k+1)= .v (.list [(I5 k).V]):=rfl
def SY(k:Nat):List V:=match k with|0=>[]|j+1=>[(I5 j).V]
def XH(k:Nat):(No k).copy= .v (.list (SY k)):=by cases k<;>rfl
def aA(k:Nat):(I5 k).V= .agg [.list [],.list [],.list (SY k)]:=aB k
variable {n:Nat}
section
variable {cs:List Int} {vs:List Val} {ps:List Th} (h1:cs.length<=5000) (h2:vs.length<=5000) (h3:ps.length<=5000) (a h b:Int)
def qJ(O:AV (cs.length+cs.length) 8=true)(U:AV (vs.length+vs.length) 24=true):
  AX JI (λe s=>(e= .normal\/e= .exit 0)/\AK s.e 8= .R 1 0/\AK s.e 9= .R 2 0/\∃R J,s.h=R::z26:: .cells [.W 3 1 ((cs++cs).map (.int .i64)),.W 171 3 ((vs++vs).map Val.V),.W 58 3 (ps.map Th.V)]::J)
   ⟨[(3,(b:D)),(4,.R 0 0),(8,.R 1 0),(9,.R 2 0),(65,((8:Int):D))],DI cs vs ps (.W 3 1 (cs.map (.int .i64))) []⟩:=by
 have W:=Yp cs;have g2:=VY vs;have G:(cs.map (V.int .i64)).length=cs.length:=Ac;have N:(vs.map Val.V).length=vs.length:=Ac;rw[r9,r9];simp only[DI,Th.cells,Th.cs,Th.vs,Th.ps,AM];generalize cs.map (V.int .i64)=X at*;generalize vs.map Val.V=Y at*;generalize ps.map Th.V=Z at*;rw[<-G]at O;rw[<-N]at U;clear G N;simp only[JI,Hk,Hl,V7,la,AC.L,AC.R,AH,AJ,AO,AB 26 12,AB 26 14,AB 26 16,AB 26 18,AB 26 20,AB 26 22,AB 26 27,AB 26 34];simp;simp only[AB 26 10];simp[z26,U,g2];simp only[AB 26 11];simp[O,W]
include h3
theorem qw(m:Nat)(W:Af b 4=m)(q4:∀h,FX 11 [b,((4:Int):D)] h [((Af b 4:Int):D)] h)(Z:m <4):
  AX JI (λe s=>(e= .normal\/e= .exit 0)/\AK s.e 8= .R 1 0/\AK s.e 9= .R 2 0/\∃R J,s.h=R::z26:: .cells [.W 3 1 (cs.map (.int .i64)),.W 171 3 (vs.map Val.V),.W 58 3 ((ps++[I5 (5+m)]).map Th.V)]::J)
   ⟨[(3,(b:D)),(4,.R 0 0),(8,.R 1 0),(9,.R 2 0),(65,((6:Int):D))],DI cs vs ps (.W 3 1 (cs.map (.int .i64))) []⟩:=by
 simp only[JI,Hk,Hl,V7,la,AC.L,AC.R,AH,AJ,AO,AB 26 12,AB 26 14,AB 26 16,AB 26 18,AB 26 20,AB 26 22,AB 26 27];simp;simp only[AY,AB 26 28];simp[DI,z26,AQ,AB 26 29];refine Ab (5+m) (λk=>⟨[(3,(b:D)),(8,.R 1 0),(9,.R 2 0),(12,.R 3 0),(13,(k:D))],[.cells (Th.mk cs vs ps).cells,z26,.cells [.W 3 1 (cs.map (.int .i64)),.W 171 3 (vs.map Val.V),.W 58 3 (ps.map Th.V)],
  .cells [.W 3 1 [],.W 171 3 [],No k]]⟩) (by simp[z26,XI]) ?_
 intro k hk;have w0:IntKind.i64.wrap (5+(m:Int))=5+m:=AS AE AE;have w1:=Bt k;have U:=aA k;have hs:=XG k;have hc:=XH k;have G:AV (ps.length+1) 72=true:=by simp[AV];omega
 simp only[Zw,BG 26 1,AB 26 30];simp;refine⟨_,_,q4 _,?_⟩;simp[W,w0];by_cases h1:k <5+m
 .have O:(k:Int) <5+m:=AE;rw[hs,U];generalize I5 k=N at*;generalize No k=M at*;generalize SY k=X at*;cases M<;>simp only[D.copy,D.v.injEq,V.list.injEq,reduceCtorEq]at hc
  all_goals try subst hc
  all_goals simp[O,AD,AB 26 32,AQ]
  all_goals simp[AB 26 31,w1,h1]
 .obtain rfl:k=5+m:=AE;rw[U];generalize I5 (5+m)=N at*;generalize No (5+m)=M at*;generalize SY (5+m)=X at*;cases M<;>simp only[D.copy,D.v.injEq,V.list.injEq,reduceCtorEq]at hc
  all_goals try subst hc
  all_goals simp[AN,AB 26 33,z26,AQ,G]
include h1 h2
theorem t26(N:(Th.mk cs vs ps).wb n)(hn:ps=[]\/¬0 <Af a 3)(hh:i64 h)(hb:i64 b):T26 n (.mk cs vs ps) a h b:=by
 have k1:cs.length<=n:=by cases N;assumption
 have k2:vs.length<=n:=by cases N;assumption
 have k3:ps.length<=n:=by cases N;assumption
 have b3:=C7 h 9 hh;have b6:=(Cb h 9 Ah).2;have w:=fun {cs2 vs2 ps2}=>qH h1 h2 h3 a h b hn (cs2:=cs2) (vs2:=vs2) (ps2:=ps2);obtain⟨v,hv⟩:∃v,Af h 9=v:=⟨_,rfl⟩;rw[hv]at w b3 b6;have q5:=LZ b 5 Ah;have q4:=LZ b 4 Ah;have b5:=C7 b 5 hb;have c5:=(Cb b 5 Ah).2;have b4:=C7 b 4 hb;have c4:=(Cb b 4 Ah).2;have a1:∀x∈vs,x.ok:=by cases N;assumption
 have G:∀c∈cs,i64 c:=by cases N;assumption
 have J:∀p∈ps,p.wb (2*n+100):=by cases N with|mk _ _ _ _ _ h5=>exact λp hp=>(h5 p hp).mono AE
 have rc:AV (cs.length+1) 8=true:=by simp[AV];omega
 have rv:AV (vs.length+1) 24=true:=by simp[AV];omega
 have b9:=C7 b 9 hb;have c9:=(Cb b 9 Ah).2;have q9:=(LZ b 9 Ah).fsp;have a6:∀v:Val,v.ok->∀x∈vs++[v],x.ok:=λv hv x hx=>by
  rcases rp.1 hx with hx|hx
  .exact a1 x hx
  .rw[rm.1 hx];exact hv
 simp at q5 q4 q9;have a7:v=0\/v=1\/v=2\/v=3\/v=4\/v=5\/v=6\/v=7\/v=8:=AE;rcases a7 with rfl|rfl|rfl|rfl|rfl|rfl|rfl|rfl|rfl
 .obtain⟨x,hx,hg⟩:=Xg [b,-1,0,63,64] b5 (by simpa using c5);have a2:i64 x:=by simp at hx;rcases hx with rfl|rfl|rfl|rfl|rfl<;>(unfold i64 at *;omega)
  refine T26.of N (cs2:=cs++[x]) (vs2:=vs) (ps2:=ps) (λc hc=>(rp.1 hc).elim (G c) λh=>by rw[rm.1 h];exact a2) Dd AE AE a1 J AE (w ?_);simp only[JI,Hk,Hl,V7,la,AC.L,AC.R,AH,AJ,AO,AB 26 12];simp;simp only[Aa,AB 26 13];simp[DI,Th.cells,z26,AQ];refine⟨_,_,⟨rfl,rfl⟩,_,q5,?_⟩;generalize O:[V.int .i64 b,V.int .i64 (-1),V.int .i64 0,V.int .i64 63,V.int .i64 64]=L;have U:L[(Af b 5).toNat]?=some (x:V):=by rw[<-O];exact hg
  have Z:Af b 5 <(L.length:Int):=by rw[<-O];exact c5
  obtain⟨_,W⟩:=rZ.1 U;clear O hg;simp[W,Z,b5,rc]
 .obtain⟨x,hx,hg⟩:=Xg [b,-1,0,31,32] b5 (by simpa using c5);have a2:i64 x:=by simp at hx;rcases hx with rfl|rfl|rfl|rfl|rfl<;>(unfold i64 at *;omega)
  refine T26.of N (cs2:=cs) (vs2:=vs++[⟨x,1,1⟩]) (ps2:=ps) G AE Dd AE (a6 _ ⟨a2,by simp[i64],by simp[i64]⟩) J AE (w ?_);simp only[JI,Hk,Hl,V7,la,AC.L,AC.R,AH,AJ,AO,AB 26 12,AB 26 14];simp;simp only[Aa,AB 26 15];simp[DI,Th.cells,z26,AQ];refine⟨_,_,⟨rfl,rfl⟩,_,q5,?_⟩;generalize O:[V.int .i64 b,V.int .i64 (-1),V.int .i64 0,V.int .i64 31,V.int .i64 32]=L;have U:L[(Af b 5).toNat]?=some (x:V):=by rw[<-O];exact hg
  have Z:Af b 5 <(L.length:Int):=by rw[<-O];exact c5
  obtain⟨_,W⟩:=rZ.1 U;clear O hg;simp[W,Z,b5,rv,Val.V]
 .obtain⟨x,hx,hg⟩:=Xg [b,1099511627776,-1099511627776,1099511627777] b4 (by simpa using c4);have a2:i64 x:=by simp at hx;rcases hx with rfl|rfl|rfl|rfl<;>(unfold i64 at *;omega)
  refine T26.of N (cs2:=cs) (vs2:=vs++[⟨31,x,1⟩]) (ps2:=ps) G AE Dd AE (a6 _ ⟨by simp[i64],a2,by simp[i64]⟩) J AE (w ?_);simp only[JI,Hk,Hl,V7,la,AC.L,AC.R,AH,AJ,AO,AB 26 12,AB 26 14,AB 26 16];simp;simp only[Aa,AB 26 17];simp[DI,Th.cells,z26,AQ];refine⟨_,_,⟨rfl,rfl⟩,_,q4,?_⟩;generalize O:[V.int .i64 b,V.int .i64 1099511627776,V.int .i64 (-1099511627776),V.int .i64 1099511627777]=L;have U:L[(Af b 4).toNat]?=some (x:V):=by rw[<-O];exact hg
  have Z:Af b 4 <(L.length:Int):=by rw[<-O];exact c4
  obtain⟨_,W⟩:=rZ.1 U;clear O hg;simp[W,Z,b4,rv,Val.V]
 .obtain⟨x,hx,hg⟩:=Xg [b,0,-1,65536,65537] b5 (by simpa using c5);have a2:i64 x:=by simp at hx;rcases hx with rfl|rfl|rfl|rfl|rfl<;>(unfold i64 at *;omega)
  refine T26.of N (cs2:=cs) (vs2:=vs++[⟨31,1,x⟩]) (ps2:=ps) G AE Dd AE (a6 _ ⟨by simp[i64],by simp[i64],a2⟩) J AE (w ?_);simp only[JI,Hk,Hl,V7,la,AC.L,AC.R,AH,AJ,AO,AB 26 12,AB 26 14,AB 26 16,AB 26 18];simp;simp only[Aa,AB 26 19];simp[DI,Th.cells,z26,AQ];refine⟨_,_,⟨rfl,rfl⟩,_,q5,?_⟩;generalize O:[V.int .i64 b,V.int .i64 0,V.int .i64 (-1),V.int .i64 65536,V.int .i64 65537]=L;have U:L[(Af b 5).toNat]?=some (x:V):=by rw[<-O];exact hg
  have Z:Af b 5 <(L.length:Int):=by rw[<-O];exact c5
  obtain⟨_,W⟩:=rZ.1 U;clear O hg;simp[W,Z,b5,rv,Val.V]
 .refine T26.of N (cs2:=cs) (vs2:=vs++[⟨31,IntKind.i64.wrap (2*b),6⟩]) (ps2:=ps) G AE Dd AE (a6 _ ⟨by simp[i64],Ex _,by simp[i64]⟩) J AE (w ?_);simp only[JI,Hk,Hl,V7,la,AC.L,AC.R,AH,AJ,AO,AB 26 12,AB 26 14,AB 26 16,AB 26 18,AB 26 20];simp;simp[AB 26 21,DI,Th.cells,z26,AQ,rv,Val.V]
 .obtain⟨m,hm⟩:∃m:Nat,Af b 9=m:=⟨(Af b 9).toNat,AE⟩;refine T26.of N (cs2:=cs) (vs2:=vs) (ps2:=ps++List.replicate (90+m) (.mk [] [] [])) G AE AE Dd a1 (λp hp=>?_) (by rw[KS,TH];omega) (w ?_)
  .rcases rp.1 hp with hp|hp
   .exact J p hp
   .rw[List.eq_of_mem_replicate hp];exact .mk Ac Ac Ac Ac Ac Ac
  .simp only[JI,Hk,Hl,V7,la,AC.L,AC.R,AH,AJ,AO,AB 26 12,AB 26 14,AB 26 16,AB 26 18,AB 26 20,AB 26 22];simp;simp only[AY,AB 26 23];simp;refine Ab (90+m) (λk=>⟨[(3,(b:D)),(8,.R 1 0),(9,.R 2 0),(11,(k:D))],[.cells (Th.mk cs vs ps).cells,z26,.cells [.W 3 1 (cs.map (.int .i64)),.W 171 3 (vs.map Val.V),.W 58 3 ((ps++List.replicate k (Th.mk [] [] [])).map Th.V)]]⟩) (by simp[DI]) ?_;intro k hk;have w0:IntKind.i64.wrap (90+(m:Int))=90+m:=AS AE AE;have w1:=Bt k;have a8:AV (ps.length+k+1) 72=true:=by simp[AV];omega
   simp only[Zw,BG 26 0,AB 26 24];simp;refine⟨_,_,q9 _,?_⟩;simp[hm,w0];by_cases h1:k <90+m
   .have b2:(k:Int) <90+m:=AE;simp[b2,AD,AB 26 26,z26,AQ,a8];simp[AB 26 25,w1,h1,List.replicate_succ',Th.V_eq,AM]
   .obtain rfl:k=90+m:=AE;simp[AN,z26]
 .obtain⟨m,hm⟩:∃m:Nat,Af b 4=m:=⟨(Af b 4).toNat,AE⟩;obtain⟨n1,n3⟩:=QE (5+m);have b1:=q4.fsp;simp at b1;refine T26.of N (cs2:=cs) (vs2:=vs) (ps2:=ps++[I5 (5+m)]) G AE AE Dd a1 (λp hp=>?_) (by rw[KS];simp[Th.sizes,n3];omega) (w ?_)
  .rcases rp.1 hp with hp|hp
   .exact J p hp
   .rw[rm.1 hp];exact n1.mono AE
  .exact qw h3 b m hm b1 AE
 .by_cases b0:cs=[]
  .refine T26.of N (cs2:=cs) (vs2:=vs) (ps2:=ps) G AE AE AE a1 J AE (w ?_);subst b0;simp only[JI,Hk,Hl,V7,la,AC.L,AC.R,AH,AJ,AO,AB 26 12,AB 26 14,AB 26 16,AB 26 18,AB 26 20,AB 26 22,AB 26 27,AB 26 34];simp;simp only[AY,AB 26 35];simp;refine Av ?_;simp[BG 26 2,AH,AJ,AO,AB 26 36,DI,z26,AN]
  .exact T26.of N (λc hc=>G c (by simpa using hc)) Dd AE AE a1 J AE (v26 h1 h2 h3 a h b b0 hn hv)
 .refine T26.of N (cs2:=cs++cs) (vs2:=vs++vs) (ps2:=ps) (λc hc=>G c (by simpa using hc)) Dd Dd AE (λx hx=>a1 x (by simpa using hx)) J AE (w ?_);have r1:AV (cs.length+cs.length) 8=true:=by simp[AV];omega
  have r2:AV (vs.length+vs.length) 24=true:=by simp[AV];omega
  exact qJ b r1 r2
end
end
end Go.Va
