/- Laws, part 7. No condition. -/
import Derived.Test.YtopldfpkgbkomaaGreatDoorL05
import Derived.Test.YtopldfpkgbkomaaGreatDoorL06
set_option linter.all false
set_option maxRecDepth 100000
set_option maxHeartbeats 4000000
noncomputable section
namespace Go.Va
open Go.Proofs
theorem gM(f:F)(Q:AExit->St->Prop)(J:Q .normal ⟨[(1,.R 0 0),(27,.v (.bool (La f)))],[.cells f.cells]⟩):
  AX (.reg (oG 144 1) [1,27]) Q ⟨[(1,.R 0 0)],[.cells f.cells]⟩:=by
 obtain⟨B,G⟩:∃B,La f=B:=⟨_,rfl⟩;rw[G]at J;obtain⟨op,n,ins,kids⟩:=f;simp only[F.cells,La,F.op,F.n,F.ins,F.kids]at*;rw[AX,AJ];simp only[AB 144 1];by_cases h2:op=2
 .subst h2;simp at G;subst G;simpa using J
 .by_cases hl:0 <ins.length
  .have O:0 <(ins.length:Int):=AE;simp[h2,hl]at G;subst G;simp[h2,hl];exact J
  .have O:¬0 <(ins.length:Int):=AE;have U:ins=[]:=by cases ins<;>simp_all
   subst U;by_cases N:op=1
   .subst N;simp at G;subst G;simpa using J
   .by_cases W:n=0
    .subst W;simp at G;subst G;simp[h2,N];exact J
    .have Z:(n != 0)=true:=by simpa using W
     simp[h2,N,W]at G;subst G;simp[h2,N,Z];exact J
def nN(f:F)(hf:f.ok1):PX 144 [f.V] [.bool (BC f)]:=by
 refine BS 144 ?_;obtain⟨R,G⟩:∃R,BC f=R:=⟨_,rfl⟩;rw[G];have hp:=(lg f.ins hf.2.2.1 hf.2.2.2).fsp;rw[As 144];rw[AH,AJ];obtain⟨op,n,ins,kids⟩:=f;simp only[F.V_eq,F.ins]at*;simp[AB 144 0,Ad];rw[AH,AH];have ha:=gM ⟨op,n,ins,kids⟩;simp only[F.cells,F.op,F.n,F.ins,F.kids]at ha;refine ha _ ?_;simp[AO];cases ho:La ⟨op,n,ins,kids⟩with
 |true=>
  rw[LF ho]at G;simp[AH,AJ,AA,AB 144 2,AW 144,G]
 |false=>
  rw[Ju ho]at G;simp only[F.op,F.n,F.ins,F.kids]at G;simp only[AD,if_neg vI];simp only[Zw,AB 144 3,AB 144 4,AB 144 5];simp;by_cases W:op=0
  .subst W;simp at G;simp[AA,AB 144 6,AW 144,SZ,G]
  .simp only[W,if_false]at G;simp[W,AB 144 7];by_cases Z:op=1
   .subst Z;simp at G;simp[AA,AB 144 8];by_cases U:kids.length=0
    .have J:kids=[]:=uw.1 U;subst J;by_cases N:0<=n<;>by_cases O:n <64<;>simp[N,O]at G<;>simp[N,O,AW 144,G]
    .have J:¬kids=[]:=λh=>U (by rw[h];rfl);simp[J]at G;simp[J,AW 144,G]
   .simp only[Z,if_false]at G;simp[Z,AB 144 9];by_cases h2:op=2
    .subst h2;simp at G;simp[AA,AB 144 10];by_cases U:kids.length=0
     .have J:kids=[]:=uw.1 U;subst J;by_cases N:0<=n<;>by_cases O:n <32<;>simp[N,O]at G<;>simp[N,O,AW 144,G]
      refine⟨_,_,hp _,?_⟩;simp;rw[<-G,tC];simp
     .have J:¬kids=[]:=λh=>U (by rw[h];rfl);simp[J]at G;simp[J,AW 144,G]
    .simp only[h2,if_false]at G;simp[h2,AB 144 11];by_cases h3:op=3
     .subst h3;simp at G;simp[AD,AA,AB 144 13,AW 144,Ll,G]
     .simp[h3,AD,AB 144 12];by_cases h6:op=6
      .subst h6;simp at G;simp[AA,AB 144 13,AW 144,Ll,G]
      .simp[h3,h6]at G;simp[h6,AA,AB 144 14];by_cases h4:op=4<;>by_cases h5:op=5<;>simp[h4,h5]at G<;>simp[h4,h5,AW 144,G]
def nO:∀f:F,f.ok->PX 143 [f.V] [(f.depth:V)]:=by
 refine F.ind λop n ins kids ih G=>?_;refine BS 143 ?_;have O:=G.2;rw[F.size_eq]at O;have a2:=F.kids_len kids;have a1:=N7 kids;simp only[As 143,AH,AJ,AY,AB 143 0,AB 143 1,AB 143 2,Ad];simp[F.V_eq];refine Ag kids.length (λk s=>s.e=[(3,((F.depths (kids.take k):Int):D)),(7,(kids.map F.V:D)),(8,(kids.length:D)),(9,(k:D))]) (by simp[F.depths]) ?_;rintro k ⟨se,sh⟩ hk he;simp only at he;subst he;simp only[Zw,BG 143 0,AB 143 3];simp;by_cases W:k <kids.length
 .obtain⟨x,hx⟩:∃x,kids[k]?=some x:=⟨_,rW W⟩;have J:=rY hx;have hw:=Bt k;have Z:=(ih x J (F.ok_kid G J)).fsp;have ht:=LK hx;rw[CF,AD];simp only[AB 143 4,AB 143 5,AB 143 6];obtain⟨xo,xn,xi,xk⟩:=x;simp[F.V_eq]at Z;simp[hx,F.V_eq,AQ];refine⟨_,_,Z _,?_⟩;simp[hw,W,ht];split<;>omega
 .have N:k=kids.length:=AE;subst N;rw[Bj,AN];have U:IntKind.i64.wrap ((F.depths kids:Int)+1)=F.depths kids+1:=AS AE AE;simp[AA,AB 143 7,AW 143,U,F.depth]
def RunY(P:Program)(GL:Ai)(r:Nat):List V->List Row->Bool->List Row->Prop
 |[],X,b,X'=>b=true/\X'=X
 |n::ns,X,b,X'=>∃b1 X1,X1.length=X.length/\(∀J,∃J2,Ky P GL r [.v n] (X++J) b1 (X1++(J++J2)))/\if b1 then RunY P GL r ns X1 b X' else b=false/\X'=X1
section
variable {P:Program} {GL:Ai} {r:Nat}
def RunY.len:∀{N:List V}{X:List Row}{b:Bool}{G:List Row},RunY P GL r N X b G->G.length=X.length
 |[],X,b,G,h=>by rw[h.2]
 |n::N,X,b,G,h=>by
  obtain⟨O,X1,J,_,h2⟩:=h;cases O with
  |true=>rw[RunY.len h2,J]
  |false=>rw[h2.2,J]
def RunY.app:∀{xs N:List V}{X:List Row}{b:Bool}{G:List Row},RunY P GL r (xs++N) X b G->∃J X1,RunY P GL r xs X J X1/\if J then RunY P GL r N X1 b G else b=false/\G=X1
 |[],N,X,b,G,h=>⟨true,X,⟨rfl,rfl⟩,h⟩
 |x::xs,N,X,b,G,h=>by
  obtain⟨J,X1,O,h2,U⟩:=h;cases J with
  |true=>
   obtain⟨Z,W,h4,h5⟩:=RunY.app (xs:=xs) U;exact⟨Z,W,⟨true,X1,O,h2,h4⟩,h5⟩
  |false=>exact⟨false,X1,⟨false,X1,O,h2,rfl,rfl⟩,U⟩
end
def nI(x:F)(c:Nat)(h:List Row)(a:Nat)(hc:h[c]?=some (.cells [.func 148 [.R a 0,.R c 0]]))(b:Bool)(h':List Row)(J:FX 148 [.v x.V,.R a 0,.R c 0] (h++[.cells x.cells]) [(b:D)] h'):FX 150 [.v x.V,.R c 0] h [.v (.bool (!b))] h':=by
 refine EH 150 ?_;have G:=AU [.cells x.cells] hc;obtain⟨W,U,N,O⟩:=x;simp only[F.cells,F.op,F.n,F.ins,F.kids,F.V_eq]at*;simp only[As 150,AH,AJ,AB 150 0,AB 150 1,AZ];simp[G,D.vs?,D.v?];refine⟨_,_,J,?_⟩;simp[AA,AW 150]
def oV(r:Nat)(a c:Nat)(kids:List F)(hk:∀k∈kids,∀X b G J i j,a=X.length+i->c=X.length+j->RunY Tryz.prog BK r (k.nodes.map F.V) X b G->J[i]?=some (.cells [.yld r])->J[j]?=some (.cells [.func 148 [.R a 0,.R c 0]])->
   ∃O,FX 148 [.v k.V,.R a 0,.R c 0] (X++J) [(b:D)] (G++(J++O))):
  ∀(X:List Row)(b:Bool)(G:List Row)(J:List Row)(i j:Nat),a=X.length+i->c=X.length+j->RunY Tryz.prog BK r ((kids.flatMap F.nodes).map F.V) X b G->J[i]?=some (.cells [.yld r])->J[j]?=some (.cells [.func 148 [.R a 0,.R c 0]])->
   ∃O q,IdxR Tryz.prog BK 150 [.R c 0] (kids.map F.V) (X++J) q (G++(J++O))/\q.isSome= !b:=by
 induction kids with
 |nil=>
  rintro X b G J i j Z hc ⟨rfl,rfl⟩ hi N;exact⟨[],none,⟨rfl,Ac⟩,rfl⟩
 |cons k ks ih=>
  intro X b G J i j Z hc hr hi N;rw[r7,r9]at hr;obtain⟨W,X1,h1,h2⟩:=hr.app;have hl:=h1.len;obtain⟨U,hp⟩:=hk k Ac X W X1 (J++[.cells k.cells]) i j Z hc h1 (AU _ hi) (AU _ N);have a1:(X++J)[c]?=some (.cells [.func 148 [.R a 0,.R c 0]]):=by rw[BQ X J c j hc];exact N
  rw[<-rn]at hp;have hq:=nI k c (X++J) a a1 W _ hp;cases W with
  |true=>
   simp only[if_true]at h2;obtain⟨J2,q,h3,h4⟩:=ih (λx hx=>hk x (by simp[hx])) X1 b G (J++[.cells k.cells]++U) i j (by rw[hl];exact Z) (by rw[hl];exact hc) h2 (AU _ (AU _ hi)) (AU _ (AU _ N));refine⟨[.cells k.cells]++U++J2,q.map (· +1),⟨false,_,hq,?_⟩,by cases q<;>simpa using h4⟩
   simp only[rz,if_false];refine⟨q,?_,rfl⟩;simpa[rn]using h3
  |false=>
   simp only[rz,if_false]at h2;obtain⟨rfl,rfl⟩:=h2;refine⟨[.cells k.cells]++U,some 0,⟨true,_,hq,?_⟩,rfl⟩;simp[rn]
def nJ(r:Nat)(a c:Nat):∀f:F,f.ok->∀X b X' J i j,a=X.length+i->c=X.length+j->RunY Tryz.prog BK r (f.nodes.map F.V) X b X'->J[i]?=some (.cells [.yld r])->J[j]?=some (.cells [.func 148 [.R a 0,.R c 0]])->
   ∃J',FX 148 [.v f.V,.R a 0,.R c 0] (X++J) [(b:D)] (X'++(J++J')):=by
 refine F.ind λop n ins kids ih W=>?_;intro X b X' J i j ha hc hr hi hj;have a1:=W.2;rw[F.size_eq]at a1;have a2:=F.kids_len kids;rw[F.nodes_eq,rq]at hr;obtain⟨b1,X1,hl,hy,N⟩:=hr;obtain⟨J2,Z⟩:=hy (J++[.cells (F.mk op n ins kids).cells]);have ga:(X++(J++[.cells (F.mk op n ins kids).cells]))[a]?=some (.cells [.yld r]):=by rw[BQ X _ a i ha];exact AU _ hi
 have gc:(X++(J++[.cells (F.mk op n ins kids).cells]))[c]?=some (.cells [.func 148 [.R a 0,.R c 0]]):=by rw[BQ X _ c j hc];exact AU _ hj
 have gf:(X++(J++[.cells (F.mk op n ins kids).cells]))[X.length+J.length]?=some (.cells (F.mk op n ins kids).cells):=by rw[BQ X _ _ J.length rfl];simp
 have O:(X1++(J++[.cells (F.mk op n ins kids).cells]++J2))[X.length+J.length]?=some (.cells (F.mk op n ins kids).cells):=by rw[BQ X1 _ _ J.length (by rw[hl])];simp
 have G:∀x∈kids.map F.V,∃cs,x=V.agg cs/\cs.length=4:=by intro x hx;obtain⟨k,_,rfl⟩:=rl.1 hx;obtain⟨ko,kn,ki,kk⟩:=k;exact⟨_,F.V_eq ..,rfl⟩
 have e0:X++J++[.cells (F.mk op n ins kids).cells]=X++(J++[.cells (F.mk op n ins kids).cells]):=rn ..;cases b1 with
 |false=>
  obtain⟨rfl,rfl⟩:=N;refine⟨[.cells (F.mk op n ins kids).cells]++J2,EH 148 ?_⟩;simp only[F.cells,F.op,F.n,F.ins,F.kids,F.V_eq]at*;simp only[As 148,AH,AJ,AB 148 0,AB 148 1,AZ];simp[-Bool.exists_bool];simp[ga,-Bool.exists_bool];refine⟨_,_,Z,?_⟩;simp[AA,AW 148]
 |true=>
  simp only[if_true]at N;obtain⟨J3,q,U,hq⟩:=oV r a c kids (λk hk=>ih k hk (F.ok_kid W hk)) X1 b X' (J++[.cells (F.mk op n ins kids).cells]++J2) i j (by rw[hl];exact ha) (by rw[hl];exact hc) N (AU _ (AU _ hi)) (AU _ (AU _ hj));have hp:=W9 (.func 150 [.R c 0]) 150 [.R c 0] (FV.r 150 c 0 []) (kids.map F.V) Dd G U;refine⟨[.cells (F.mk op n ins kids).cells]++J2++J3,EH 148 ?_⟩;simp only[F.cells,F.op,F.n,F.ins,F.kids,F.V_eq]at*;simp only[As 148,AH,AJ,AB 148 0,AB 148 1,AZ];simp[-Bool.exists_bool];simp[ga,-Bool.exists_bool];refine⟨_,_,Z,?_⟩;simp at O;simp[O,D.vs?,D.v?];simp at hp;rw[hq]at hp;refine⟨_,_,hp,?_⟩;simp[AA,AW 148]
def jB(f:F)(h:List Row):FX 68 [.v f.V] h [.func 147 [.R h.length 0]] (h++[.cells f.cells]):=by refine EH 68 ?_;obtain⟨op,n,ins,kids⟩:=f;simp[As 68,awp,AB 68 0,AB 68 1,AW 68,AZ,F.V_eq,F.cells,F.op,F.n,F.ins,F.kids,D.vs?,D.v?]
def XA(f:F)(O:f.ok)(r q:Nat)(X:List Row)(b:Bool)(N:List Row)(hr:RunY Tryz.prog BK r (f.nodes.map F.V) X b N)(Z:X[q]?=some (.cells f.cells)):
  ∃J,FX 147 [.yld r,.R q 0] X [] (N++J):=by
 obtain⟨U,W⟩:=nJ r X.length (X.length+1) f O X b N [.cells [.yld r],.cells [.func 148 [.R X.length 0,.R (X.length+1) 0]]] 0 1 rfl rfl hr rfl rfl;refine⟨[.cells [.yld r],.cells [.func 148 [.R X.length 0,.R (X.length+1) 0]]]++U,EH 147 ?_⟩;obtain⟨op,n,ins,kids⟩:=f;have G:=AU [.cells [.yld r],.cells [.func 148 [.R X.length 0,.R (X.length+1) 0]]] Z;simp only[F.cells,F.op,F.n,F.ins,F.kids,F.V_eq]at*;simp only[As 147,AH,AJ,AB 147 0,AB 147 1,AB 147 2,AB 147 3,AZ];simp[AQ,D.v?]
 try simp at G
 simp[G];exact⟨⟨_,W⟩,rfl⟩
def oX(A B:Row)(e0:CC)(N:AK e0 3= .R 1 0):∀(G:List V)(k:Nat),k+G.length<=2^41->
  RunY Tryz.prog BK 3 G [A,.cells [k],B,A5 Tryz.prog BK .ready e0 [6] (lG 142 0) (lG 142 1000)] true [A,.cells [((k+G.length:Nat):D)],B,A5 Tryz.prog BK .ready e0 [6] (lG 142 0) (lG 142 1000)]:=by
 intro G;induction G with
 |nil=>intro k _;exact⟨rfl,rfl⟩
 |cons n G ih=>
  intro k O;simp only[sF]at O;refine⟨true,[A,.cells [((k+1:Nat):D)],B,A5 Tryz.prog BK .ready e0 [6] (lG 142 0) (lG 142 1000)],rfl,λJ=>⟨[],?_⟩,?_⟩
  .refine CK (e0:=e0) (ps:=[6]) (asg:=(lG 142 0)) (body:=(lG 142 1000)) Ac rfl ?_;have U:=Bt k;simp only[E5,BG 142 0,BG 142 1000,AJ,AY,AD,AB 142 3];simp[N,U,AQ,BH]
  .have:=ih (k+1) AE;have e:k+1+G.length=k+(n::G).length:=by simp;omega
   rw[e]at this;exact this
def nP(f:F)(G:f.ok):PX 142 [f.V] [(f.size:V)]:=by
 refine BS 142 ?_;have O:=G.2;have N:=jB f;have Z:=oX (.cells f.cells) (.cells f.cells) (FI [(3,.R 1 0),(5,.func 147 [.R 2 0])]) rfl (f.nodes.map F.V) 0 (by simp;unfold F.size at O;omega);obtain⟨J,U⟩:=XA f G 3 2 _ _ _ Z rfl;have W:(f.nodes.map F.V).length=f.size:=by simp[F.size]
 rw[W,tI]at U;generalize f.size=sz at*;obtain⟨op,n,ins,kids⟩:=f;simp only[F.cells,F.op,F.n,F.ins,F.kids,F.V_eq]at*;simp only[As 142,AH,AJ,AY,AB 142 0,AB 142 1,AB 142 2,Ad];simp[AQ];refine⟨_,_,N _,?_⟩;simp;refine DN 147 [.R 2 0] [] _ _ .ready rfl rfl U rfl ?_;simp[Cg,AB 142 4,AA,AW 142]
def qE(A B:Row)(e0:CC)(O:AK e0 2= .R 1 0)(g:F)(hg:g.ok1)(J:List Row):∃N,Ky Tryz.prog BK 3 [.v g.V] ([A,.cells [((0:Int):D)],B,A5 Tryz.prog BK .ready e0 [14] (lG 66 0) (lG 66 1000)]++J) (BC g)
   ((if BC g then [A,.cells [((0:Int):D)],B,A5 Tryz.prog BK .ready e0 [14] (lG 66 0) (lG 66 1000)] else [A,.cells [((1:Int):D)],B,A5 Tryz.prog BK (.done none) e0 [14] (lG 66 0) (lG 66 1000)])++(J++N)):=by
 refine⟨[.cells g.cells],CK (e0:=e0) (ps:=[14]) (asg:=(lG 66 0)) (body:=(lG 66 1000)) Ac rfl ?_⟩;have G:=(nN g hg).fsp;generalize BC g=b at*;obtain⟨op,n,ins,kids⟩:=g;simp only[F.cells,F.op,F.n,F.ins,F.kids,F.V_eq]at*;simp only[Zw,E5,BG 66 0,BG 66 1000,AB 66 4,AB 66 5];have e:J.length+1+1+1+1=J.length+4:=AE;simp[O,AQ];simp at G;refine⟨_,_,G _,?_⟩;cases b with
 |true=>simp[AD,BH]
 |false=>simp[AA,AB 66 6,AQ,BH]
def rC(A B:Row)(e0:CC)(N:AK e0 2= .R 1 0):∀(G:List F),(∀g∈G,g.ok1)->
  RunY Tryz.prog BK 3 (G.map F.V) [A,.cells [((0:Int):D)],B,A5 Tryz.prog BK .ready e0 [14] (lG 66 0) (lG 66 1000)] (G.all BC)
   (if G.all BC then [A,.cells [((0:Int):D)],B,A5 Tryz.prog BK .ready e0 [14] (lG 66 0) (lG 66 1000)] else [A,.cells [((1:Int):D)],B,A5 Tryz.prog BK (.done none) e0 [14] (lG 66 0) (lG 66 1000)]):=by
 intro G;induction G with
 |nil=>intro _;exact⟨rfl,rfl⟩
 |cons n G ih=>
  intro J;have O:=qE A B e0 N n (J n Ac);refine⟨BC n,_,?_,O,?_⟩
  .split<;>rfl
  .cases hf:BC n with
   |true=>
    simp only[if_true,tz,hf,sV];exact ih λg hg=>J g (by simp[hg])
   |false=>simp[hf]
def cE(f:F)(N:f.ok):PX 66 [f.V] [((A6 f:Int):V)]:=by
 refine BS 66 ?_;obtain⟨R,G⟩:∃R,A6 f=R:=⟨_,rfl⟩;rw[G];unfold A6 at G;have h1:=(nP f N).fsp;have h2:=(nO f N).fsp;have W:=jB f;have hr:=rC (.cells f.cells) (.cells f.cells) (FI [(2,.R 1 0),(13,.func 147 [.R 2 0])]) rfl f.nodes N.1;obtain⟨J,hp⟩:=XA f N 3 2 _ _ _ hr rfl;generalize f.nodes.all BC=al at*;generalize f.size=sz at*;generalize f.depth=dp at*;obtain⟨op,n,ins,kids⟩:=f;simp only[F.cells,F.op,F.n,F.ins,F.kids,F.V_eq]at*;simp only[Zw,As 66,AB 66 0,AB 66 1,Ad];simp at h1 h2 W;simp;refine⟨_,_,h1 _,?_⟩;by_cases Z:96 <sz
 .have O:96 <(sz:Int):=AE;simp[Z]at G;simp[O,AA,AB 66 2,AW 66,AQ,G]
 .have O:¬96 <(sz:Int):=AE;simp[O];refine⟨_,_,h2 _,?_⟩;by_cases b2:8 <dp
  .have U:8 <(dp:Int):=AE;simp[b2]at G;simp[U,AA,AB 66 2,AW 66,AQ,G]
  .have U:¬8 <(dp:Int):=AE;simp[Z,b2]at G;simp[U,AD,AB 66 3];refine⟨_,_,W _,?_⟩;simp;cases al with
   |true=>
    simp at G;refine DN 147 [.R 2 0] [] _ _ .ready rfl rfl hp rfl ?_;simp[Cg,AA,AB 66 7,AW 66,AQ,G]
   |false=>
    simp at G;refine DN 147 [.R 2 0] [] _ _ (.done none) rfl rfl hp rfl ?_;simp[Cg,AW 66,G]
def iv:Qz:=λ_ _ _=>none
def D8:List (List Int):=[[],[0],[0],[1,2],[],[4]]
theorem eY:∀ps∈D8,PX 120 [((6:Int):V),AM .i64 ps] [(true:V)]:=by
 intro ps G;simp only[D8,rj,sK,or_false]at G;rcases G with rfl|rfl|rfl|rfl|rfl|rfl
 all_goals exact GY (Pr:=iv) (fuel:=100) Qx (λf args h x hx=>by cases hx) HR
theorem eW:∀ps∈D8,PX 121 [AM .i64 ps] [(true:V)]:=by
 intro ps G;simp only[D8,rj,sK,or_false]at G;rcases G with rfl|rfl|rfl|rfl|rfl|rfl
 all_goals exact GY (Pr:=iv) (fuel:=100) Qx (λf args h x hx=>by cases hx) HR
theorem eV:∀ps∈D8,PX 122 [AM .i64 ps] [AM .i64 ps]:=by
 intro ps G;simp only[D8,rj,sK,or_false]at G;rcases G with rfl|rfl|rfl|rfl|rfl|rfl
 all_goals exact GY (Pr:=iv) (fuel:=100) Qx (λf args h x hx=>by cases hx) HR
abbrev bv(b:Bool):D:= .v (.bool b)
def H5:D:= .W 22 1 (D8.map (AM .i64))
def NU(bs:List Bool):Row:= .cells (H5::bs.map bv)
def Ce(bs dn op:List Bool):List Row:=[NU bs,.cells [.R 0 0],.cells (dn.map bv),.cells (op.map bv),.cells [.sr 2 6],.cells [.sr 3 6],.cells [.func 211 [.R 4 0,.R 5 0,.R 1 0,.R 6 0]]]
def Tf(i:Nat)(src:List Bool):Nat->List Bool->List Bool
 |0,bs=>bs
 |j+1,bs=>(Tf i src j bs).set (i*64+j) ((Tf i src j bs).getD (i*64+j) false||src.getD j false)
def O0(i:Nat)(G:List Bool)(bs:List Bool):∀j,(Tf i G j bs).length=bs.length
 |0=>rfl
 |j+1=>by rw[Tf,so,O0 i G bs j]
def SB(i:Nat)(bs:List Bool)(p:Nat):List Bool:=Tf i ((bs.drop (p*64)).take 64) 64 bs
def oQ(i:Nat)(hi:i <6)(bs dn op G:List Bool)(b4:bs.length=4096)(hs:G.length=64)(O U W:D):
  AX (.loop (lG 211 1)) (λe s=>e= .exit 2/\AK s.e 0=(i:D)/\AK s.e 1= .R 4 0/\AK s.e 3= .R 1 0/\AK s.e 4= .R 6 0/\AK s.e 41=O/\AK s.e 42=U/\AK s.e 43=W/\s.h=Ce (Tf i G 64 bs) dn op)
   ⟨[(0,(i:D)),(1,.R 4 0),(3,.R 1 0),(4,.R 6 0),(41,O),(42,U),(43,W),(56,.agg (G.map bv)),(57,((0:Int):D))],Ce bs dn op⟩:=by
 refine Ab 64 (λj=>⟨[(0,(i:D)),(1,.R 4 0),(3,.R 1 0),(4,.R 6 0),(41,O),(42,U),(43,W),(56,.agg (G.map bv)),(57,(j:D))],Ce (Tf i G j bs) dn op⟩) (by simp[Tf]) ?_;intro j hj;simp only[Zw,BG 211 1,AB 211 11];simp;by_cases b2:j <64
 .have hw:=Bt j;have Z:Tf i G (j+1) bs=(Tf i G j bs).set (i*64+j) ((Tf i G j bs).getD (i*64+j) false||G.getD j false):=rfl
  have b3:=O0 i G bs j;rw[Z];generalize Tf i G j bs=B at*;obtain⟨b,hb⟩:∃b,B[i*64+j]?=some b:=⟨_,rW AE⟩;obtain⟨c,hc⟩:∃c,G[j]?=some c:=⟨_,rW AE⟩;have a7:B.getD (i*64+j) false=b:=by rw[vT,hb];rfl
  have a8:G.getD j false=c:=by rw[vT,hc];rfl
  rw[a7,a8];obtain⟨ds,J⟩:∃ds,H5::B.map bv=ds:=⟨_,rfl⟩;have a2:ds.length=4097:=by rw[<-J];simp;omega
  have hld:ds[1+i*64+j]?=some (bv b):=by rw[<-J,show 1+i*64+j=(i*64+j)+1 by omega];simp[hb]
  have N:∀v,AQ ds (1+i*64+j) [bv v]=H5::(B.set (i*64+j) v).map bv:=by intro v;rw[<-J,show 1+i*64+j=(i*64+j)+1 by omega,AQ];simp only[vG,u6,List.drop_succ_cons,List.map_set,sw];rw[uk,if_pos Dd];simp
  have a6:(i:Int) <64:=AE;have b0:(j:Int) <64:=AE;have b1:1+i*64+j+1<=4097:=AE;rw[CF,AD];simp only[AB 211 12,Ce,NU,J];have a1:j<=63:=AE;simp[hs,hc,a1,Aa,AB 211 13];simp[a2,hld,a6,b0,b2,b1];cases b with
  |false=>
   simp[N,AB 211 14,hw]
  |true=>
   simp[N,AB 211 14,hw]
 .have:j=64:=AE;subst this;rw[Bj,AN];simp
section
variable {k:Nat}
def Q6{α:Type}{l:List α}{x:α}(h:l[k]?=some x):l.take (k+1)=l.take k++[x]:=by rw[rx,h];rfl
def F3(i:Nat):List Bool:=(List.range 6).map λj=>decide (j <i)
def OZ(i:Nat):List Int:=D8.getD i []
def LH(i:Nat)(bs:List Bool):List Bool:=(OZ i).foldl (λb p=>SB i b p.toNat) (bs.set (i*64+i) true)
def We(i:Nat)(bs:List Bool)(p:Nat):(SB i bs p).length=bs.length:=O0 _ _ _ _
def Me(i:Nat):∀(ps:List Int)(bs:List Bool),(ps.foldl (λb p=>SB i b p.toNat) bs).length=bs.length
 |[],_=>rfl
 |p::ps,bs=>by rw[uG,Me i ps,We]
def To(i:Nat)(bs:List Bool):(LH i bs).length=bs.length:=by rw[LH,Me,so]
def SG(i:Nat):(F3 i).length=6:=by simp[F3]
def SH(i p:Nat)(G:p <6):(F3 i)[p]?=some (decide (p <i)):=by simp[F3,G]
def Wf(i:Nat)(hi:i <6):(F3 i).set i true=F3 (i+1):=by have:∀i <6,(F3 i).set i true=F3 (i+1):=Ah;exact this i hi
def SQ(l:List Bool)(i:Nat)(v:Bool)(hi:i <l.length):AQ (l.map bv) i [bv v]=(l.set i v).map bv:=by rw[AQ,List.map_set,uk,if_pos (by simpa using hi)];simp
def dv(bs op:List Bool)(i p:Nat)(Z:p <i)(hi:i<=6):FX 211 [p,.R 4 0,.R 5 0,.R 1 0,.R 6 0] (Ce bs (F3 i) op) [(true:D)] (Ce bs (F3 i) op):=by
 refine EH 211 ?_;have W:=SG i;have G:p <6:=AE;have hd:(F3 i)[p]?=some true:=by rw[SH i p G];simp[Z]
 have O:p<=5:=AE;have J:(p:Int) <6:=AE;generalize F3 i=U at*;have N:∀h,U[p]'h=true:=λh=>(rZ.1 hd).2;simp only[As 211,AH,AJ,AO,AB 211 0,AB 211 1,AZ,Ce];simp[G,J,O,N,W,AB 211 2,AA,AW 211]
theorem gE(i:Nat)(hi:i <6)(ps:List Int)(O G J:List Bool)(b0:J.length=4096)(b4:∀p∈ps,0<=p/\p.toNat <i)(c2:ps.length<=2)(ha:∀bs(p:Nat),p <i->FX 211 [.v (.int .i64 p),.R 4 0,.R 5 0,.R 1 0,.R 6 0] (Ce bs O G) [(true:D)] (Ce bs O G)):
  AX (.loop (lG 211 0)) (λe s=>e= .exit 0/\AK s.e 0=(i:D)/\AK s.e 1= .R 4 0/\s.h=Ce (ps.foldl (λb p=>SB i b p.toNat) J) O G)
   ⟨[(0,(i:D)),(1,.R 4 0),(3,.R 1 0),(4,.R 6 0),(41,.v (AM .i64 ps)),(42,(ps.length:D)),(43,((0:Int):D))],Ce J O G⟩:=by
 have fl:∀k,((ps.take k).foldl (λb p=>SB i b p.toNat) J).length=4096:=by intro k;rw[Me,b0]
 refine Ab ps.length (λk=>⟨[(0,(i:D)),(1,.R 4 0),(3,.R 1 0),(4,.R 6 0),(41,.v (AM .i64 ps)),(42,(ps.length:D)),(43,(k:D))],Ce ((ps.take k).foldl (λb p=>SB i b p.toNat) J) O G⟩) Ac ?_;intro k hk;have a1:=fl k;simp only[Zw,BG 211 0,AB 211 6];simp[AM];by_cases a2:k <ps.length
 .obtain⟨p,N⟩:∃p,ps[k]?=some p:=⟨_,rW a2⟩;have hw:=Bt k;obtain⟨c0,c1⟩:=b4 p (rY N);obtain⟨q,rfl⟩:∃q:Nat,p=q:=⟨p.toNat,AE⟩;have b5:q <i:=AE;have a7:(ps.take (k+1)).foldl (λb p=>SB i b p.toNat) J=SB i ((ps.take k).foldl (λb p=>SB i b p.toNat) J) q:=by rw[Q6 N,tq,uG,List.foldl_nil,tu]
  rw[a7];generalize (ps.take k).foldl (λb p=>SB i b p.toNat) J=B at*;have hc:=ha B q b5;have a6:(q:Int) <64:=AE;have b9:q<=63:=AE;have b6:((B.drop (q*64)).take 64).length=64:=by rw[sJ,List.length_drop];omega
  have q2:=oQ i hi B O G ((B.drop (q*64)).take 64) a1 b6 (.v (AM .i64 ps)) (ps.length:D) (k:D);have a8:SB i B q=Tf i ((B.drop (q*64)).take 64) 64 B:=by rw[SB]
  rw[<-a8]at q2;generalize SB i B q=NB at*;clear a8;have hld:List.take 64 (List.drop (q*64) (List.map bv B))=((B.drop (q*64)).take 64).map bv:=by rw[sQ,uB]
  have b1:∀l:List Bool,List.map (D.copy ∘ bv) l=l.map bv:=λl=>by simp[ud,D.copy]
  have b3:1+q*64<=4033:=AE;have b2:∀(x:D)(l:List D),List.drop (1+q*64) (x::l)=List.drop (q*64) l:=λx l=>by rw[Nat.add_comm];rfl
  rw[CF,AD];simp only[AB 211 7];simp[N,AB 211 8,Ce];simp only[Ce]at hc;refine⟨_,_,hc,?_⟩;simp[AD,AB 211 10,NU,a6,a1,b3,b2,b1];simp only[Ce,NU,AM]at q2;simp only[sQ,uB]at q2;refine Ap _ ?_ q2;rintro e ⟨se,sh⟩ ⟨rfl,f0,f1,f3,f4,U,W,Z,hh⟩;simp only at f0 f1 f3 f4 U W Z hh;subst hh;simp[AB 211 15,f0,f1,f3,f4,U,W,Z,hw,a2]
 .have:k=ps.length:=AE;subst this;rw[Bj,AN];simp
def mU(bs:List Bool)(i:Nat)(hi:i <6)(a1:bs.length=4096):FX 211 [i,.R 4 0,.R 5 0,.R 1 0,.R 6 0] (Ce bs (F3 i) (F3 i)) [(true:D)] (Ce (LH i bs) (F3 (i+1)) (F3 (i+1))):=by
 refine EH 211 ?_;have hl:=SG i;have hd:(F3 i)[i]?=some false:=by rw[SH i i hi];simp
 have O:i<=5:=AE;have J:(i:Int) <6:=AE;have G:=SQ (F3 i) i true AE;rw[Wf i hi]at G;have ha:=λbs p hp=>dv bs (F3 (i+1)) i p hp AE;have U:D8[i]?=some (OZ i):=by have:∀i <6,D8[i]?=some (OZ i):=Ah;exact this i hi
 have a7:∀p∈OZ i,0<=p/\p.toNat <i:=by have:∀i <6,∀p∈OZ i,0<=p/\p.toNat <i:=Ah;exact this i hi
 have a6:(OZ i).length<=2:=by have:∀i <6,(OZ i).length<=2:=Ah;exact this i hi
 have W:LH i bs=(OZ i).foldl (λb p=>SB i b p.toNat) (bs.set (i*64+i) true):=rfl;generalize LH i bs=FB at*;generalize OZ i=ps at*;generalize F3 (i+1)=Z at*;generalize F3 i=dn at*;have r0:AQ (H5::bs.map bv) (1+i*64+i) [bv true]=H5::(bs.set (i*64+i) true).map bv:=by rw[show 1+i*64+i=(i*64+i)+1 by omega,AQ];have:=SQ bs (i*64+i) true AE;rw[AQ]at this;simpa using this
 have a8:i<=63:=AE;have N:(i:Int) <64:=AE;have a2:1+i*64+i+1<=bs.length+1:=AE;simp only[As 211,AH,AJ,AO,AB 211 0,AB 211 1,AZ,Ce];simp[O,J,hd,hl,AD,AB 211 3];simp[G,AB 211 4,NU,N,r0,a2];have b0:D8.length=6:=rfl;simp[AB 211 5,H5,U,AM];have q:=gE i hi ps dn Z (bs.set (i*64+i) true) (by rw[so,a1]) a7 a6 ha;rw[<-W]at q;simp[Ce,NU,H5,AM]at q;simp only[AY];refine Ap _ ?_ q;rintro e ⟨se,sh⟩ ⟨rfl,f0,f1,hh⟩;simp only at f0 f1 hh;subst hh;simp[AB 211 16,f0,f1,J,O,hl,G,AB 211 17,AA,AW 211]
end
def Qr:AC:=match la 123 with| .seq _ (.seq a _)=>a|_=> .skip
def ZJ:AC:=match la 123 with| .seq _ (.seq _ b)=>b|_=> .skip
def Xt:(gA 123)= .seq (.reg (oG 123 0) [1]) (.seq Qr ZJ):=(As 123 :)
def UP:AT:=match Qr with| .regA _ _ _ t=>t|_=> .done
def iH:List (List Nat):=match Qr with| .regA _ _ c _=>c|_=>[]
theorem WC:Qr= .regA (oG 123 1) [1,3,4] iH UP:=rfl
def P9(rest:List D):Option (List St):=Vk (ev Tb iv 4) [] (oG 123 1) UP ⟨[(1,.R 1 0)],[.cells (H5::rest),.cells [.R 0 0]]⟩
def ek(G:List D):P9 G=(P9 []).map (List.map λo=>⟨o.e,o.h.set 0 (.cells (H5::G))⟩):=HR
def F6:Row:= .cells ((F3 0).map bv)
def au:St:=⟨[(1,.R 1 0),(3,.R 4 0),(4,.R 5 0)],[.cells [H5],.cells [.R 0 0],F6,F6,.cells [.sr 2 6],.cells [.sr 3 6]]⟩
def MF(o:St):List (Nat×Nat):=
 match AK o.e 3,AK o.e 4 with
 | .R a _,.R b _=>match o.h[a]?,o.h[b]? with
  |some (.cells [.sr u _]),some (.cells [.sr v _])=>[(a,4),(b,5),(u,2),(v,3)]
  |_,_=>[]
 |_,_=>[]
def V1(o:St):Bool:=
 decide (o.h.length=6)&&MG 2 6 (MF o)&&Nn o.h&&decide (Dm (CT (MF o)) 0=0)&&((List.range 6).all λi=>decide (i=0)|| !decide (Dm (CT (MF o)) i=0))&&
  Qg [1,3,4] (SM (MF o) o) au
def VA:(match P9 []with|some os=>os.all V1|none=>false)=true:=HR
def Ze(π:List (Nat×Nat))(bs:List Bool):Row.ren π (.cells (H5::bs.map bv))= .cells (H5::bs.map bv):=by simp[Row.ren,DB,H5,D.ren,ud]
def Pw(π:List (Nat×Nat))(h:List Row)(X:Row)(N:X.ren π=X)(O:h.length=6)(J:Dm (CT π) 0=0)(hi:∀i <6,i≠0->Dm (CT π) i≠0):BD π (h.set 0 X)=(BD π h).set 0 X:=by
 refine sl λi=>?_;simp only[BD,so,O,rk];rcases sL i 6 with hi6|hi6
 .rw[tT hi6];by_cases G:i=0
  .subst G;rw[sY Ac];simp only[sT,J];rw[sY AE];simp[N]
  .rw[sG (Ne.symm G),rk,tT hi6];simp only[sT];rw[sG (Ne.symm (hi i hi6 G))]
 .rw[sU (by simpa using hi6),sU (by simpa using hi6)];rfl
def pU(bs:List Bool)(Q:AExit->St->Prop)(hQ:Q .normal ⟨[(1,.R 1 0),(3,.R 4 0),(4,.R 5 0)],[NU bs,.cells [.R 0 0],F6,F6,.cells [.sr 2 6],.cells [.sr 3 6]]⟩):
  AX Qr Q ⟨[(1,.R 1 0)],[NU bs,.cells [.R 0 0]]⟩:=by
 rw[AX,WC,Bf];obtain⟨os,h0⟩:∃os,P9 []=some os:=by
  have h:=VA;cases U:P9 []with
  |none=>rw[U]at h;cases h
  |some os=>exact⟨os,rfl⟩
 have G:=VA;rw[h0]at G;have he:=ek (bs.map bv);rw[h0,sT]at he;obtain⟨-,N⟩:=Kl (P:=Tryz.prog) (GL:=BK) (Rh Qx (λf args h x hx=>by cases hx) 4) UP he ⟨λr J=>by simp[Lp.has]at J,Ac⟩;refine N _ λo U=>?_;obtain⟨O,W,rfl⟩:=rl.1 U;have hc:=(ry.1 G) O W;simp only[V1,rX,decide_eq_true_eq]at hc;obtain⟨⟨⟨⟨⟨Z,c2⟩,c3⟩,c4⟩,c5⟩,c6⟩:=hc;obtain⟨e1,e2⟩:=Mj c6;have hi:∀i <6,i≠0->Dm (CT (MF O)) i≠0:=by intro i hi hz;have:=(ry.1 c5) i (sM.2 hi);simpa[hz]using this
 have J:=Pw (MF O) O.h (.cells (H5::bs.map bv)) (Ze _ _) Z c4 hi;simp only[SM]at e1 e2;rw[e2]at J;refine BW (K:=λs2=>Q .normal ⟨Bv s2.e [1,3,4],s2.h⟩) (MF O) ?_ ?_ ?_
 .simpa[Z,Lp.ins]using c2
 .simp only[Nn,ry,Lp.ins]at c3 ⊢;intro r J;rcases sn J with J|rfl
  .exact c3 r J
  .rfl
 .simp only[Lp.ins];rw[J,e1];exact hQ
def DC:Nat->List Bool->List Bool
 |0,bs=>bs
 |i+1,bs=>LH i (DC i bs)
def Kk(bs:List Bool):∀i,(DC i bs).length=bs.length
 |0=>rfl
 |i+1=>by rw[DC,To,Kk bs i]
theorem WB:ZJ=(.seq (.reg (oG 123 2) [1,3,4,5]) (.seq (.reg (oG 123 3) [1,5]) (.seq (.seq (.reg (oG 123 4) [5,24,25]) (.block 0 (.loop (lG 123 0)))) (.seq (.reg (oG 123 10) [2]) .ret)))):=rfl
def oZ(bs:List Bool)(G:bs.length=4096):
  AX (.loop (lG 123 0)) (λe s=>e= .exit 0/\s.h=Ce (DC 6 bs) (F3 6) (F3 6))
   ⟨[(5,.R 6 0),(24,((6:Int):D)),(25,((0:Int):D))],Ce bs (F3 0) (F3 0)⟩:=by
 refine Ab 6 (λi=>⟨[(5,.R 6 0),(24,((6:Int):D)),(25,(i:D))],Ce (DC i bs) (F3 i) (F3 i)⟩) (by simp[DC]) ?_;intro i hi;simp only[Zw,BG 123 0,AB 123 5];simp;by_cases J:i <6
 .have U:=Bt i;have N:=mU (DC i bs) i J (by rw[Kk,G]);have O:DC (i+1) bs=LH i (DC i bs):=rfl;rw[O];generalize LH i (DC i bs)=W at*;generalize DC i bs=B at*;generalize F3 (i+1)=t2 at*;generalize F3 i=Z at*;rw[CF,AD];simp only[AB 123 6];simp[AB 123 7,Ce];simp only[Ce]at N;refine⟨_,_,N,?_⟩;simp[AD,AB 123 9,U];omega
 .have:i=6:=AE;subst this;rw[Bj,AN];simp
def nW(bs:List Bool)(G:bs.length=4096):FX 123 [.R 0 0] [NU bs] [(true:D)] (Ce (DC 6 bs) (F3 6) (F3 6)):=by refine EH 123 ?_;have q:=oZ bs G;generalize Ce (DC 6 bs) (F3 6) (F3 6)=N at*;rw[Xt];simp only[AH,AJ,AB 123 0,AZ];simp;refine pU bs _ ?_;rw[WB];simp only[AH,AJ,AY,AB 123 2];simp[AB 123 3,AQ,NU,H5];simp[AB 123 4,D8];simp only[Ce,NU,H5,F6]at q ⊢;refine Ap _ ?_ q;rintro e ⟨O,U⟩ ⟨rfl,J⟩;simp only at J;subst J;simp[AB 123 10,AA,AW 123]
def Hp(b:Bool):Int:=if b then 1 else 0
def CM(x:Ivl):List Int:=BI [x.ln,x.ld,x.hn,x.hd,Hp x.lo,Hp x.ho,Hp x.li,Hp x.hi]
def C9(f:F):List Int:=Aj f.op++(Aj f.n++(Aj f.ins.length++(f.ins.flatMap CM++Aj f.kids.length)))
def Bi(f:F):List Int:=f.nodes.flatMap C9
def W3(b:Bool):PX 295 [b] [((Hp b:Int):V)]:=by refine BS 295 ?_;cases b<;>simp[As 295,awp,AB 295 0,AB 295 1,AB 295 2,AB 295 3,AW 295,Ad,Hp]
def W1(b:Bool):PX 339 [b] [((Hp b:Int):V)]:=by refine BS 339 ?_;cases b<;>simp[As 339,awp,AB 339 0,AB 339 1,AB 339 2,AB 339 3,AW 339,Ad,Hp]
def HJ:∀(xs:List Int),(∀x∈xs,0<=x/\x <256)->Fe (xs.map (V.int .u8))=some (xs.map λn=>UInt8.ofNat n.toNat)
 |[],_=>rfl
 |x::xs,h=>by have:=HJ xs λy G=>h y (by simp[G]);simp only[rq,Fe];rw[if_pos (h x Ac),this];rfl
def pe(xs:List Int)(hx:∀x∈xs,0<=x/\x <256)(hb:xs.length<=2^40)(h:List Row)(r:Nat)(J:List Int)(Z:h[r]?=some (wr J))(U:J.length<=2^45):FX 99 [.R r 0,.v (AM .u8 xs)] h [] (h.set r (wr (J++BR xs))):=by
 refine EH 99 ?_;obtain⟨b,N,G⟩:∃b:ByteArray,Fe (xs.map (V.int .u8))=some b.data.toList/\An b=xs:=by
  refine⟨⟨(xs.map λn=>UInt8.ofNat n.toNat).toArray⟩,by rw[HJ xs hx],?_⟩;simp only[An,tP];conv=>rhs;rw[<-List.map_id xs]
  refine uN λn W=>?_;obtain⟨h1,h2⟩:=hx n W;simp only[Function.comp,id];rw[UInt8.toNat_ofNat_of_lt' (by simp[UInt8.size];omega)];omega
 have a1:b.size=xs.length:=by rw[<-LP,G]
 simp[As 99,awp,AB 99 0,AW 99,AZ,AM,N];have O:=mf b AE h r J Z U;rw[G]at O;exact⟨_,O⟩
def ef(l:List Int)(hi:∀n∈l,i64 n)(U:l.length<=2^40):PX 107 [AM .i64 l] [AM .u8 (BI l)]:=by
 refine BS 107 ?_;have O:IntKind.u64.wrap (l.length:Int)=l.length:=BL AE AE;simp only[As 107,AH,AY,AJ,AB 107 0,AB 107 1,AB 107 2,Ad];simp[AM,O];refine⟨_,_,(W6 l.length ⟨AE,AE⟩ []),?_⟩;have hu:=Cu l.length;simp;refine Ab l.length (λk=>⟨[(0,.v (AM .i64 l)),(3,.W 5 1 ((Fk l.length++(l.take k).flatMap Aj).map (.int .u8))),(4,(k:D))],[]⟩) (by simp[AM]) ?_;intro k hk;simp only[Zw,BG 107 0,AB 107 3];simp[AM];by_cases J:k <l.length
 .have hx:l[k]?=some l[k]:=rW J;have N:=Bt k;rw[CF,AD];simp only[AB 107 4,AB 107 5];simp[hx];refine⟨_,_,(Ob l[k] (hi _ (sy J)) []),?_⟩;have Z:=CQ (l.take k);have W:=Al l[k];have ht:(l.take k).length=k:=by simp;omega
  have G:AV ((Fk l.length).length+((l.take k).flatMap Aj).length+(Aj l[k]).length) 1=true:=by simp[AV,-List.length_flatMap];omega
  simp[G,J,N,-List.length_flatMap];rw[Bk J];simp
 .have:k=l.length:=AE;subst this;rw[Bj,AN];simp[AA,AB 107 6,AW 107,BI]
def Sz(b:Bool):i64 (Hp b):=by cases b<;>(unfold i64 Hp;simp)
theorem kF(x:Ivl)(hx:x.ok):PX 325 [x.V] [AM .u8 (CM x)]:=by
 refine BS 325 ?_;have J:=ef [x.ln,x.ld,x.hn,x.hd,Hp x.lo,Hp x.ho,Hp x.li,Hp x.hi] (by
  intro n G;simp at G;rcases G with rfl|rfl|rfl|rfl|rfl|rfl|rfl|rfl
  .exact hx.1
  .exact hx.2.1
  .exact hx.2.2.1
  .exact hx.2.2.2
  all_goals exact Sz _) Ac
 have e:BI [x.ln,x.ld,x.hn,x.hd,Hp x.lo,Hp x.ho,Hp x.li,Hp x.hi]=CM x:=rfl;rw[e]at J;generalize CM x=bs at*;have N:=W1 x.lo;have O:=W1 x.ho;have hc:=W1 x.li;have hd:=W1 x.hi;obtain⟨ln,ld,G,U,lo,W,Z,hi⟩:=x;rw[As 325];simp only[AH,AJ,AB 325 0,Ad];simp[Ivl.V,Aa,AB 325 1];refine⟨_,_,⟨rfl,rfl⟩,_,N,?_⟩;simp;refine⟨_,_,⟨rfl,rfl⟩,_,O,?_⟩;simp;refine⟨_,_,⟨rfl,rfl⟩,_,hc,?_⟩;simp;refine⟨_,_,⟨rfl,rfl⟩,_,hd,?_⟩;simp;simp[AM]at J;refine⟨_,_,⟨rfl,rfl⟩,_,J,?_⟩;simp[AA,AW 325,AM]
def Xl(op n:Int)(ins:List Ivl)(kids:List F):Bi (.mk op n ins kids)=C9 (.mk op n ins kids)++kids.flatMap Bi:=by unfold Bi;rw[F.nodes_eq,r7,List.flatMap_assoc]
def D1{α:Type}(l:List α)(f:α->List Int)(k:Nat):((l.take k).flatMap f).length<=(l.flatMap f).length:=by have:=congrArg (λl=>(List.flatMap f l).length) (sa k l);simp only[tU,re]at this;omega
def Jy{α:Type}{l:List α}{f:α->List Int}{x:α}(h:x∈l):(f x).length<=(l.flatMap f).length:=by
 induction l with
 |nil=>cases h
 |cons y l ih=>
  rw[r7,re];cases h with
  |head=>omega
  |tail _ h=>have:=ih h;omega
def fz(op n:Int)(ins:List Ivl)(kids:List F)(J:∀x∈ins,x.ok)(a1:ins.length<=2^40)(O:∀m:Nat,m<=2^46->AV m 1=true)(pre:List Int)(hb:pre.length+(ins.flatMap CM).length<=2^46):
  AX (.loop (lG 297 0)) (λe s=>e= .exit 0/\s=⟨[(1,.R 0 0),(3,.W 5 1 ((pre++ins.flatMap CM).map (.int .u8))),(4,(ins.length:D)),(23,(false:D))],[.cells (F.mk op n ins kids).cells]⟩)
   ⟨[(1,.R 0 0),(3,.W 5 1 (pre.map (.int .u8))),(4,((0:Int):D))],[.cells (F.mk op n ins kids).cells]⟩:=by
 refine Ab ins.length (λk=>⟨[(1,.R 0 0),(3,.W 5 1 ((pre++(ins.take k).flatMap CM).map (.int .u8))),(4,(k:D))],[.cells (F.mk op n ins kids).cells]⟩) Ac ?_;intro k hk;simp only[Zw,BG 297 0,AB 297 4,F.cells,F.op,F.n,F.ins,F.kids];simp;by_cases G:k <ins.length
 .obtain⟨x,hx⟩:∃x,ins[k]?=some x:=⟨_,rW G⟩;have W:=rY hx;have N:ins[k]=x:=(rZ.1 hx).2;have hw:=Bt k;have Z:=(kF x (J x W)).fsp;have U:=D1 ins CM (k+1);rw[Bk G,N,re]at U;rw[CF,AD];simp only[AB 297 5,AB 297 6];simp[Ivl.V,AM]at Z;simp[hx,Ivl.V];refine⟨_,_,Z _,?_⟩;simp[hw,G,-List.length_flatMap,O _ (show pre.length+((ins.take k).flatMap CM).length+(CM x).length<=2^46 by omega)];rw[Bk G,N];simp
 .have:k=ins.length:=AE;subst this;rw[Bj,AN];simp
def fy(op n:Int)(ins:List Ivl)(kids:List F)(hp:∀x∈kids,∀h,FX 297 [.v x.V] h [.v (AM .u8 (Bi x))] h)(Z:kids.length<=2^40)(N:∀m:Nat,m<=2^46->AV m 1=true)(pre:List Int)(hb:pre.length+(kids.flatMap Bi).length<=2^46):
  AX (.loop (lG 297 1)) (λe s=>e= .exit 2/\s=⟨[(1,.R 0 0),(3,.W 5 1 ((pre++kids.flatMap Bi).map (.int .u8))),(5,(kids.length:D)),(44,(false:D))],[.cells (F.mk op n ins kids).cells]⟩)
   ⟨[(1,.R 0 0),(3,.W 5 1 (pre.map (.int .u8))),(5,((0:Int):D))],[.cells (F.mk op n ins kids).cells]⟩:=by
 refine Ab kids.length (λk=>⟨[(1,.R 0 0),(3,.W 5 1 ((pre++(kids.take k).flatMap Bi).map (.int .u8))),(5,(k:D))],[.cells (F.mk op n ins kids).cells]⟩) Ac ?_;intro k hk;simp only[Zw,BG 297 1,AB 297 9,F.cells,F.op,F.n,F.ins,F.kids];simp;by_cases G:k <kids.length
 .obtain⟨x,hx⟩:∃x,kids[k]?=some x:=⟨_,rW G⟩;have U:=rY hx;have J:kids[k]=x:=(rZ.1 hx).2;have hw:=Bt k;have W:=hp x U;have O:=D1 kids Bi (k+1);rw[Bk G,J,re]at O;have e:(kids.take (k+1)).flatMap Bi=(kids.take k).flatMap Bi++Bi x:=by rw[Bk G,J]
  generalize Bi x=bs at*;obtain⟨xo,xn,xi,xk⟩:=x;rw[CF,AD];simp only[AB 297 10,AB 297 11];simp[F.V_eq,AM]at W;simp[hx,F.V_eq];refine⟨_,_,W _,?_⟩;simp[hw,G,-List.length_flatMap,N _ (show pre.length+((kids.take k).flatMap Bi).length+bs.length<=2^46 by omega),e]
 .have:k=kids.length:=AE;subst this;rw[Bj,AN];simp
def kX:∀f:F,f.ok->(Bi f).length<=2^45->PX 297 [f.V] [AM .u8 (Bi f)]:=by
 refine F.ind λop n ins kids ih J W=>?_;refine BS 297 ?_;have O:=F.ok1_self J;have U:=J.2;rw[F.size_eq]at U;have a1:=F.kids_len kids;rw[Xl]at W ⊢;simp only[C9,F.op,F.n,F.ins,F.kids,F.ok1]at*;have il:i64 (ins.length:Int):=by unfold i64;omega
 have kl:i64 (kids.length:Int):=by unfold i64;omega
 have q1:=Al op;have q2:=Al n;have q3:=Al ins.length;have q4:=Al kids.length;simp only[re]at W;have G:∀m:Nat,m<=2^46->AV m 1=true:=by intro m hm;simp[AV];omega
 simp only[As 297,AH,AJ,Bf,AY,AB 297 0,AB 297 1,Ad];simp[F.V_eq];refine⟨_,_,Ob op O.1 _,⟨[],rfl⟩,_,_,Ob n O.2.1 _,⟨[],Ac⟩,?_⟩;simp[G _ (show (Aj op).length+(Aj n).length<=2^46 by omega)];refine⟨_,.inl rfl,?_⟩;simp[AB 297 2];refine⟨_,_,Ob ins.length il _,?_⟩;simp[G _ (show (Aj op).length+(Aj n).length+(Aj ins.length).length<=2^46 by omega),AB 297 3];have Z:=fz op n ins kids O.2.2.1 O.2.2.2 G (Aj op++(Aj n++Aj ins.length)) (by simp only[re];omega);simp[F.cells,F.op,F.n,F.ins,F.kids]at Z;refine Ew Z ?_;simp[AB 297 7];refine⟨_,_,Ob kids.length kl _,?_⟩;simp[-List.length_flatMap,G _ (show (Aj op).length+((Aj n).length+((Aj ins.length).length+(ins.flatMap CM).length))+(Aj kids.length).length<=2^46 by omega),AB 297 8];have N:=fy op n ins kids (λx hx h=>(ih x hx (F.ok_kid J hx) (by have:=Jy (f:=Bi) hx;omega)).fsp h) AE G (Aj op++(Aj n++(Aj ins.length++(ins.flatMap CM++Aj kids.length)))) (by simp only[re];omega);simp[F.cells,F.op,F.n,F.ins,F.kids]at N;refine Ew N ?_;simp[AB 297 12,AA,AW 297,AM]
def DY(l:List Int)(k:Nat):Int:=match k with|0=> -1|j+1=>l.getD j 0
def C6(l:List Int)(i:Int)(k:Nat):Bool:=decide (l.getD k 0<=DY l k\/i<=l.getD k 0)
def EN(l:List Int)(i:Int):Bool:= !(List.range l.length).any (C6 l i)
def lq(l:List Int)(i:Int)(hn:l.length<=2^40):PX 241 [AM .i64 l,i] [.bool (EN l i)]:=by
 refine BS 241 ?_;simp only[As 241,AH,AJ,AY,AB 241 0,AB 241 1,AB 241 2,Ad];simp[AM];refine Aw l.length (λk=>⟨[(1,(i:D)),(5,((DY l k:Int):D)),(8,.v (AM .i64 l)),(9,(l.length:D)),(10,(k:D))],[]⟩) (λk=>∀j <k,C6 l i j=false) (by simp[AM,DY]) AE ?_;intro k hk hI;simp only[Zw,BG 241 0,AB 241 3];simp[AM];by_cases O:k <l.length
 .obtain⟨x,hx⟩:∃x,l[k]?=some x:=⟨_,rW O⟩;have hw:=Bt k;have W:C6 l i k=decide (x<=DY l k\/i<=x):=by unfold C6;simp[List.getD,hx]
  have J:DY l (k+1)=x:=by simp[DY,List.getD,hx]
  rw[CF,AD];simp only[AB 241 4,AB 241 5];simp[hx];by_cases N:x<=DY l k
  .have G:C6 l i k=true:=by rw[W];simp[N]
   simp[N,AA,AB 241 6,AW 241];unfold EN;rw[EZ O G];rfl
  .by_cases U:i<=x
   .have G:C6 l i k=true:=by rw[W];simp[U]
    simp[N,U,AA,AB 241 6,AW 241];unfold EN;rw[EZ O G];rfl
   .have Z:C6 l i k=false:=by rw[W];simp;omega
    simp[N,U,AD,AB 241 7,AB 241 8,hw,O,J];intro j hj;rcases sL j k with h|h
    .exact hI j h
    .have:j=k:=AE;subst this;exact Z
 .have a1:k=l.length:=AE;subst a1;rw[Bj,AN];simp[AA,AB 241 9,AW 241];unfold EN;rw[F1 hI];rfl
def mT(l:List Int)(i:Int)(hn:l.length<=2^40):PX 213 [AM .i64 l,i] [.bool (EN l i)]:=by
 refine BS 213 ?_;simp only[As 213,AH,AJ,AY,AB 213 0,AB 213 1,Ad];simp[AM];refine Aw l.length (λk=>⟨[(0,.v (AM .i64 l)),(1,(i:D)),(5,(k:D))],[]⟩) (λk=>∀j <k,C6 l i j=false) (by simp[AM]) AE ?_;intro k hk hI;have a7: -1<=DY l k:=by
  have:∀k,(∀j <k,C6 l i j=false)-> -1<=DY l k:=by
   intro k;induction k with
   |zero=>intro _;simp[DY]
   |succ j ih=>
    intro h;have h1:=ih λj' h'=>h j' AE;have h2:=h j AE;unfold C6 at h2;simp at h2;have e:DY l (j+1)=l.getD j 0:=rfl;rw[e];simp only[vT]at *;omega
  exact this k hI
 simp only[Zw,BG 213 0,Aa,AB 213 2];simp[AM];by_cases h1:k <l.length
 .obtain⟨x,hx⟩:∃x,l[k]?=some x:=⟨_,rW h1⟩;have hw:=Bt k;have hb:C6 l i k=decide (x<=DY l k\/i<=x):=by unfold C6;simp[List.getD,hx]
  have G:C6 l i k=true->EN l i=false:=by intro h;unfold EN;rw[EZ h1 h];rfl
  have O:C6 l i k=false->∀j <k+1,C6 l i j=false:=by
   intro J j hj;rcases sL j k with h|h
   .exact hI j h
   .have:j=k:=AE;subst this;exact J
  rw[CF,AD];simp only[AB 213 4];by_cases W:x <0
  .have N:C6 l i k=true:=by rw[hb];simp;omega
   simp[hx,W,AA,AB 213 5,AW 213,G N]
  .by_cases Z:i<=x
   .have N:C6 l i k=true:=by rw[hb];simp[Z]
    simp[hx,W,Z,AA,AB 213 5,AW 213,G N]
   .cases k with
    |zero=>
     have J:C6 l i 0=false:=by have e:DY l 0= -1:=rfl;rw[hb,e];simp;omega
     have U:l[0]=x:=(rZ.1 hx).2;simp at hw;simp[U,W,Z,AD,AB 213 3,hw,h1];exact J
    |succ j=>
     obtain⟨y,hy⟩:∃y,l[j]?=some y:=⟨_,rW AE⟩;have a2:IntKind.i64.wrap (j:Int)=j:=AS AE AE;have hl:DY l (j+1)=y:=by simp[DY,List.getD,hy]
     have U:l[j+1]=x:=(rZ.1 hx).2;have h9:(0:Int) <(j:Int)+1:=AE;have a1:(0:Int)<=(j:Int)+1:=AE;by_cases b3:x<=y
     .have N:C6 l i (j+1)=true:=by rw[hb,hl];simp[b3]
      simp[W,Z,h9,a1,a2,hx,hy,b3,AA,AB 213 5,AW 213,G N]
     .have J:C6 l i (j+1)=false:=by rw[hb,hl];simp;omega
      simp at hw;simp[W,Z,h9,a1,a2,U,hy,b3,AD,AB 213 3,hw,h1];exact O J
 .have a6:k=l.length:=AE;subst a6;rw[Bj,AN];simp[AA,AB 213 6,AW 213];unfold EN;rw[F1 hI];rfl
structure Clm where
 refs:List Int
 body:F
def Clm.V(c:Clm):V:= .agg [AM .i64 c.refs,.int .i64 c.body.op,.int .i64 c.body.n,.list (c.body.ins.map Ivl.V),.list (c.body.kids.map F.V)]
def Clm.ok(c:Clm):Prop:=(∀n∈c.refs,i64 n)/\c.refs.length<=2^40/\c.body.ok
def F.V_flds(f:F):f.V= .agg [.int .i64 f.op,.int .i64 f.n,.list (f.ins.map Ivl.V),.list (f.kids.map F.V)]:=by cases f;rw[F.V_eq];rfl
def GO(e:Nat->Int):Nat->Nat->Int
 |_,0=>0
 |k,m+1=>if e k≠0 then e k else GO e (k+1) m
def GF{e:Nat->Int}:∀(m k:Nat),(∀j,k<=j->j <k+m->e j=0)->GO e k m=0
 |0,_,_=>rfl
 |m+1,k,h=>by simp only[GO,h k AE AE];simpa using GF m (k+1) λj G h2=>h j AE AE
def Ij{e:Nat->Int}:∀(m k i:Nat),k<=i->i <k+m->(∀j,k<=j->j <i->e j=0)->e i≠0->GO e k m=e i
 |0,k,i,h1,h2,_,_=>AE
 |m+1,k,i,h1,h2,h,hi=>by
  by_cases J:k=i
  .subst J;simp only[GO,if_pos hi]
  .simp only[GO,h k AE AE];simpa using Ij m (k+1) i AE AE (λj N G=>h j AE G) hi
def Mo(c:Clm)(k:Nat):Int:=if c.refs.length>8 then 4 else if EN c.refs k then A6 c.body else 1
def J7(l:List Clm)(k:Nat):Int:=match l[k]? with|none=>0|some c=>Mo c k
def CB(l:List Clm):Int:=if l.length>32 then 4 else GO (J7 l) 0 l.length
def Zv(l:List Clm)(hl:∀c∈l,c.ok)(hn:l.length<=2^40):PX 138 [(l.map Clm.V:V)] [((CB l:Int):V)]:=by
 refine BS 138 ?_;obtain⟨R,O⟩:∃R,CB l=R:=⟨_,rfl⟩;rw[O];unfold CB at O;simp only[Zw,As 138,AB 138 0,AB 138 1,Ad];simp;by_cases W:32 <l.length
 .have N:32 <(l.length:Int):=AE;simp[W]at O;simp[N,AA,AB 138 2,AW 138,O]
 .have N:¬32 <(l.length:Int):=AE;simp only[gt_iff_lt,W,if_false]at O;simp[N,AD,AB 138 3];refine Ag l.length (λk s=>s.e=[(9,(l.map Clm.V:D)),(10,(l.length:D)),(11,(k:D))]/\∀j <k,J7 l j=0) ⟨rfl,AE⟩ ?_;rintro k ⟨se,sh⟩ hk ⟨he,hI⟩;simp only at he;subst he;simp only[Zw,BG 138 0,AB 138 4];simp;by_cases h1:k <l.length
  .obtain⟨x,hx⟩:∃x,l[k]?=some x:=⟨_,rW h1⟩;obtain⟨o1,o2,o3⟩:=hl x (rY hx);have hw:=Bt k;have J:J7 l k=Mo x k:=by unfold J7;rw[hx]
   have G:Mo x k≠0->R=Mo x k:=λh=>by rw[<-O,Ij l.length 0 k AE AE (λj _ h3=>hI j h3) (by rw[J];exact h),J]
   have p1:=(lq x.refs k o2).fsp;have p2:=(cE x.body o3).fsp;rw[F.V_flds]at p2;unfold Mo at G J;rw[CF,AD];simp only[AB 138 5,AB 138 6];simp[hx,Clm.V,AM,AQ];simp[AM]at p1 p2;by_cases b1:8 <x.refs.length
   .have U:8 <(x.refs.length:Int):=AE;simp[b1]at G;simp[U,AA,AB 138 7,AW 138,G]
   .have U:¬8 <(x.refs.length:Int):=AE;simp only[gt_iff_lt,b1,if_false]at G J;simp[U,AB 138 8];refine⟨_,_,p1 _,?_⟩;cases hr:EN x.refs k with
    |false=>
     simp[hr]at G;simp[AA,AB 138 9,AW 138,G]
    |true=>
     simp[hr]at G J;simp[AD,AB 138 10];refine⟨_,_,p2 _,?_⟩;by_cases Z:A6 x.body=0
     .rw[Z]at J;simp[Z,AB 138 11,AB 138 13,hw,h1];intro j hj;rcases sL j k with h|h
      .exact hI j h
      .have:j=k:=AE;subst this;exact J
     .simp[Z,AB 138 11,AA,AB 138 12,AW 138,G Z]
  .have a1:k=l.length:=AE;subst a1;rw[Bj,AN];rw[GF _ _ (λj _ h3=>hI j AE)]at O;simp[AA,AB 138 14,AW 138,O]
def Zz(l:List Clm)(hl:∀c∈l,c.ok)(hn:l.length<=2^40):PX 126 [(l.map Clm.V:V)] [((CB l:Int):V)]:=by
 refine BS 126 ?_;obtain⟨R,O⟩:∃R,CB l=R:=⟨_,rfl⟩;rw[O];unfold CB at O;simp only[Zw,As 126,AB 126 0,AB 126 1,Ad];simp;by_cases W:32 <l.length
 .have N:32 <(l.length:Int):=AE;simp[W]at O;simp[N,AA,AB 126 2,AW 126,O]
 .have N:¬32 <(l.length:Int):=AE;simp only[gt_iff_lt,W,if_false]at O;simp[N,AD,AB 126 3];refine Aw l.length (λk=>⟨[(0,(l.map Clm.V:D)),(3,(k:D))],[]⟩) (λk=>∀j <k,J7 l j=0) rfl AE ?_;intro k hk hI;simp only[Zw,BG 126 0,AB 126 4];simp;by_cases h1:k <l.length
  .obtain⟨x,hx⟩:∃x,l[k]?=some x:=⟨_,rW h1⟩;obtain⟨o1,o2,o3⟩:=hl x (rY hx);have hw:=Bt k;have J:J7 l k=Mo x k:=by unfold J7;rw[hx]
   have G:Mo x k≠0->R=Mo x k:=λh=>by rw[<-O,Ij l.length 0 k AE AE (λj _ h3=>hI j h3) (by rw[J];exact h),J]
   have p1:=(mT x.refs k o2).fsp;have p2:=(W5 x.body o3).fsp;rw[F.V_flds]at p2;unfold Mo at G J;rw[CF,AD];simp only[AB 126 6];simp[hx,Clm.V,AM];simp[AM]at p1 p2;by_cases b1:8 <x.refs.length
   .have U:8 <(x.refs.length:Int):=AE;simp[b1]at G;simp[U,AA,AB 126 7,AW 126,G]
   .have U:¬8 <(x.refs.length:Int):=AE;simp only[gt_iff_lt,b1,if_false]at G J;simp[U,hx,Clm.V,AM,AD,AB 126 8];refine⟨_,_,p1 _,?_⟩;cases hr:EN x.refs k with
    |false=>
     simp[hr]at G;simp[AA,AB 126 9,AW 126,G]
    |true=>
     simp[hr]at G J;simp[hx,Clm.V,AM,AB 126 10];refine⟨_,_,p2 _,?_⟩;by_cases Z:A6 x.body=0
     .rw[Z]at J;simp[Z,AB 126 11,AB 126 5,hw,h1];intro j hj;rcases sL j k with h|h
      .exact hI j h
      .have:j=k:=AE;subst this;exact J
     .simp[Z,AB 126 11,AA,AB 126 12,AW 126,G Z]
  .have a1:k=l.length:=AE;subst a1;rw[Bj,AN];rw[GF _ _ (λj _ h3=>hI j AE)]at O;simp[AA,AB 126 13,AW 126,O]
def Bb(c:Clm):List Int:=BI c.refs++BR (Bi c.body)
def BM(l:List Clm):List Int:=Aj l.length++l.flatMap Bb
def mA(l:List Clm)(hl:∀c∈l,c.ok)(hn:l.length<=2^40)(Z:(BM l).length<=2^44):PX 235 [(l.map Clm.V:V)] [AM .u8 (BM l)]:=by
 refine BS 235 ?_;have il:i64 (l.length:Int):=by unfold i64;omega
 have J:∀m:Nat,m<=2^46->AV m 1=true:=by intro m hm;simp[AV];omega
 unfold BM at Z ⊢;rw[re]at Z;simp only[As 235,AH,AJ,AY,AB 235 0,AB 235 1,AB 235 2,Ad];simp;refine⟨_,_,Ob l.length il _,?_⟩;simp;refine Ab l.length (λk=>⟨[(0,(l.map Clm.V:D)),(3,.W 5 1 ((Aj l.length++(l.take k).flatMap Bb).map (.int .u8))),(4,(k:D))],[]⟩) Ac ?_;intro k hk;simp only[Zw,BG 235 0,AB 235 3];simp;by_cases G:k <l.length
 .obtain⟨x,hx⟩:∃x,l[k]?=some x:=⟨_,rW G⟩;have U:=rY hx;have N:l[k]=x:=(rZ.1 hx).2;obtain⟨o1,o2,o3⟩:=hl x U;have hw:=Bt k;have O:=D1 l Bb (k+1);rw[Bk G,N,re]at O;have e:(l.take (k+1)).flatMap Bb=(l.take k).flatMap Bb++Bb x:=by rw[Bk G,N]
  have ec:(Bb x).length=(BI x.refs).length+(BR (Bi x.body)).length:=by simp[Bb]
  have er:(BR (Bi x.body)).length=(Fk (Bi x.body).length).length+(Bi x.body).length:=by simp[BR]
  have p1:=eg x.refs o1 o2;have W:=(kX x.body o3 AE).fsp;have p3:=eh (Bi x.body) AE;rw[F.V_flds]at W;have e2:Bb x=BI x.refs++BR (Bi x.body):=rfl;generalize BR (Bi x.body)=B at*;generalize BI x.refs=A at*;generalize Bi x.body=C at*;rw[CF,AD];simp only[AB 235 5,AB 235 6];simp[AM]at p1 W p3;simp[hx,Clm.V,AM];refine⟨_,_,p1 _,?_⟩;simp[-List.length_flatMap,hx,Clm.V,J _ (show (Aj l.length).length+((l.take k).flatMap Bb).length+A.length<=2^46 by omega)];refine⟨_,_,W _,?_⟩;simp[-List.length_flatMap];refine⟨_,_,p3 _,?_⟩;simp[-List.length_flatMap,hw,G,AB 235 4,J _ (show (Aj l.length).length+(((l.take k).flatMap Bb).length+A.length)+B.length<=2^46 by omega),e,e2]
 .have:k=l.length:=AE;subst this;rw[Bj,AN];simp[AA,AB 235 7,AW 235,AM]
def nT(l:List Clm)(G:∀c∈l,c.ok)(J:l.length<=2^40)(U:(BM l).length<=2^44):PX 134 [(l.map Clm.V:V)] [AM .u8 (if CB l=0 then BM l else []),((CB l:Int):V)]:=by
 refine BS 134 ?_;have N:=(Zz l G J).fsp;have O:=(mA l G J U).fsp;generalize CB l=e at*;simp[AM]at N O;simp only[As 134,AH,AJ,AO,AB 134 0,AB 134 1,AB 134 2,Ad];simp;refine⟨_,_,N _,?_⟩;by_cases h:e=0
 .subst h;simp[AD,AB 134 4];refine⟨_,_,O _,?_⟩;simp[AA,AW 134,AM]
 .simp[h,AA,AB 134 3,AW 134,AM]
structure Dat where
 cl:Int
 ix:Int
 day:Int
 file:Int
structure Own where
 party:Int
 num:Int
 den:Int
structure Lic where
 fr:Int
 to:Int
 fst:Int
 lst:Int
structure Rgt where
 file:Int
 state:Int
 force:Int
 claims:List Clm
 dates:List Dat
 bad:List Int
 owners:List Own
 lics:List Lic
def Dat.V(d:Dat):V:= .agg [.int .i64 d.cl,.int .i64 d.ix,.int .i64 d.day,.int .i64 d.file]
def Own.V(o:Own):V:= .agg [.int .i64 o.party,.int .i64 o.num,.int .i64 o.den]
def Lic.V(h:Lic):V:= .agg [.int .i64 h.fr,.int .i64 h.to,.int .i64 h.fst,.int .i64 h.lst]
def Rgt.cs(r:Rgt):List V:=[.int .i64 r.file,.int .i64 r.state,.int .i64 r.force,.list (r.claims.map Clm.V),.list (r.dates.map Dat.V),AM .i64 r.bad,.list (r.owners.map Own.V),.list (r.lics.map Lic.V)]
def Rgt.V(r:Rgt):V:= .agg r.cs
def Dat.ok(d:Dat):Prop:=i64 d.cl/\i64 d.ix/\i64 d.day/\i64 d.file
def Own.ok(o:Own):Prop:=i64 o.party/\i64 o.num/\i64 o.den
def Lic.ok(h:Lic):Prop:=i64 h.fr/\i64 h.to/\i64 h.fst/\i64 h.lst
structure Rgt.ok (r:Rgt):Prop where
 file:i64 r.file
 state:i64 r.state
 force:i64 r.force
 claims:∀c∈r.claims,c.ok
 dates:∀d∈r.dates,d.ok
 bad:∀n∈r.bad,i64 n
 owners:∀o∈r.owners,o.ok
 lics:∀h∈r.lics,h.ok
 lc:r.claims.length<=2^30
 ld:r.dates.length<=2^30
 lb:r.bad.length<=2^30
 lo:r.owners.length<=2^30
 ll:r.lics.length<=2^30
 enc:(BM r.claims).length<=2^39
def ED(n lo hi:Int):Bool:=decide (lo<=n/\n<=hi)
def Cp{α:Type}(f:α->α->Bool):List α->Bool
 |x::y::l=>f x y&&Cp f (y::l)
 |_=>true
def HZ(n:Nat)(d:Dat):Bool:=ED d.cl 0 (n-1)&&ED d.ix 0 63&&ED d.day 0 131072&&ED d.file 0 4095
def Ha(a b:Dat):Bool:=decide (a.cl <b.cl\/a.cl=b.cl/\a.ix <b.ix)
def Fn(o:Own):Bool:=ED o.party 1 4095&&Ef o.num o.den&&decide (0 <o.num/\o.num<=o.den)
def HW(h:Lic):Bool:=ED h.fr 1 4095&&ED h.to 1 4095&&ED h.fst 0 h.lst&&decide (h.lst<=131072)
def Ao(r:Rgt):Bool:=
 ED r.file 0 4095&&ED r.state 0 4&&ED r.force 0 4&&CB r.claims==0&&decide (r.dates.length<=4096)&&decide (r.lics.length<=4096)&&
 (r.dates.all (HZ r.claims.length)&&Cp Ha r.dates)&&(r.bad.all (λi=>ED i 0 (r.claims.length-1))&&Cp (λa b=>decide (a <b)) r.bad)&&
 (r.owners.all Fn&&Cp (λa b=>decide (a.party <b.party)) r.owners)&&r.lics.all HW
def Bn(d:Dat):List Int:=Aj d.cl++Aj d.ix++Aj d.day++Aj d.file
def Bl(o:Own):List Int:=Aj o.party++Aj o.num++Aj o.den
def Bm(h:Lic):List Int:=Aj h.fr++Aj h.to++Aj h.fst++Aj h.lst
def A7(r:Rgt):List Int:=
 Aj r.file++Aj r.state++Aj r.force++BR (BM r.claims)++Aj r.dates.length++r.dates.flatMap Bn++BI r.bad++
 Aj r.owners.length++r.owners.flatMap Bl++Aj r.lics.length++r.lics.flatMap Bm
def DK(k:Int):F:= .mk 1 ((IntKind.i64.wrap (k.tdiv 8)).tmod 6) [] []
def Di(k:Int):F:= .mk 2 ((IntKind.i64.wrap (k.tdiv 8)).tmod 2) [⟨(IntKind.i64.wrap (k.tdiv 48)).tmod 4,1,
 IntKind.i64.wrap (IntKind.i64.wrap ((IntKind.i64.wrap (k.tdiv 48)).tmod 4+1)+(IntKind.i64.wrap (k.tdiv 192)).tmod 2),1,(IntKind.i64.wrap (k.tdiv 384)).tmod 2==1,false,false,false⟩] []
def Dt(n:Int):F:=
 let k:=Af n 1048576
 if k.tmod 8=0\/k.tmod 8=1\/k.tmod 8=2 then DK k
 else if k.tmod 8=3\/k.tmod 8=4 then Di k
 else if k.tmod 8=5 then .mk 4 0 [] [Di k,DK k]
 else if k.tmod 8=6 then .mk 3 0 [] [DK k]
 else .mk 6 0 [] [DK k]
def du(n:Int):PX 212 [n] [(Dt n).V]:=by
 refine BS 212 ?_;have W:=(LZ n 1048576 Ah).fsp;unfold Dt DK Di;generalize Af n 1048576=k at*;simp at W;simp only[Zw,As 212,AB 212 0,AB 212 1,Ad];simp;refine⟨_,_,W _,?_⟩;simp[AB 212 2,AQ];simp[AB 212 3,AQ];simp[AB 212 4,AQ];simp[AB 212 5,AQ];by_cases G:k.tmod 8=0
 .simp[AB 212 6,AB 212 7,G,AD,AB 212 10,AQ,AA,AW 212,F.V_eq]
 by_cases J:k.tmod 8=1
 .simp[AB 212 6,AB 212 7,AB 212 8,J,AD,AB 212 10,AQ,AA,AW 212,F.V_eq]
 by_cases h2:k.tmod 8=2
 .simp[AB 212 6,AB 212 7,AB 212 8,AB 212 9,h2,AD,AB 212 10,AQ,AA,AW 212,F.V_eq]
 by_cases N:k.tmod 8=3
 .simp[AB 212 6,AB 212 7,AB 212 8,AB 212 9,AB 212 11,N,AD,AB 212 13,AQ,AA,AW 212,F.V_eq,Ivl.V]
 by_cases O:k.tmod 8=4
 .simp[AB 212 6,AB 212 7,AB 212 8,AB 212 9,AB 212 11,AB 212 12,O,AD,AB 212 13,AQ,AA,AW 212,F.V_eq,Ivl.V]
 by_cases U:k.tmod 8=5
 .simp[AB 212 6,AB 212 7,AB 212 8,AB 212 9,AB 212 11,AB 212 12,AB 212 14,U,AD,AB 212 15,AQ,AA,AW 212,F.V_eq,Ivl.V]
 by_cases h6:k.tmod 8=6
 .simp[AB 212 6,AB 212 7,AB 212 8,AB 212 9,AB 212 11,AB 212 12,AB 212 14,AB 212 16,h6,AD,AB 212 17,AQ,AA,AW 212,F.V_eq]
 simp[AB 212 6,AB 212 7,AB 212 8,AB 212 9,AB 212 11,AB 212 12,AB 212 14,AB 212 16,G,J,h2,N,O,U,h6,AD,AB 212 18,AQ,AA,AW 212,F.V_eq]
def Cb(a n:Int)(G:0 <n): -n <Af a n/\Af a n <n:=by
 have key:∀b:Int,-n <b.tmod n/\b.tmod n <n:=λb=>by have J:=ue b G;have h2:=ue (-b) G;rw[Int.neg_tmod]at h2;omega
 unfold Af;split<;>exact key _
def Ez(l:List Int)(i n:Int)(G:0 <n): -n <Aq l i n/\Aq l i n <n:=by
 unfold Aq;split
 .omega
 .split
  .exact Cb _ _ G
  .omega
def HF(l:List Int)(i:Nat):Clm:=
 let k:=Aq l (2*i+1) 1000
 let m:=Aq l (2*i+2) 1048576
 ⟨if i=2/\(IntKind.i64.wrap (k.tdiv 16)).tmod 4=0 then [0,1] else if 0 <i/\(IntKind.i64.wrap (k.tdiv 4)).tmod 2=0 then [(IntKind.i64.wrap (k.tdiv 8)).tmod i] else [],
  if k.tmod 4=0 then .mk 5 0 [] [Dt m,Dt (IntKind.i64.wrap (k.tdiv 4))] else Dt m⟩
def Iy(l:List Int):Nat:=(1+Aq l 0 3).toNat
def CR(l:List Int):List Clm:=(List.range (Iy l)).map (HF l)
def Jg(l:List Int):Iy l<=3:=by have:=Ez l 0 3 Ah;unfold Iy;omega
def V9:AC:=(.seq (.seq (.reg (oG 124 10) [0,3,4,5,6,7,46]) (.cond (.t 46 false) (.reg (oG 124 11) [0,3,4,5,6,7]) .skip)) (.seq (.seq (.reg (oG 124 12) [0,3,4,5,7,60]) (.cond (.t 60 false) (.reg (oG 124 13) [0,3,4,5,7]) .skip)) (.reg (oG 124 14) [0,3,4,5])))
def WA:AC:=(.seq (.reg (oG 124 8) [0,3,4,5,6,7,30]) (.cond (.t 30 false) (.regD (oG 124 9) [0,3,4,5,6,7] [[],[0],[],[2],[2,3],[0,1,2,3,4],[0,1,2,3,4,5],[0,1,2,3,4,5,6],[0,1,2,3,4,5,6,7]]) .skip))
def T5:(lG 124 0)=(.seq (.seq (.reg (oG 124 4) [0,3,4,5,13]) (.cond (.t 13 false) .skip (.exit 0))) (.seq (.block 1 (.seq (.reg (oG 124 6) [0,3,4,5,6]) (.seq (.reg (oG 124 7) [0,3,4,5,6,7]) (.seq WA V9)))) (.reg (oG 124 5) [0,3,4,5]))):=(BG 124 0 :)
def SO(i:Nat)(k:Int):List Int:=if i=2/\(IntKind.i64.wrap (k.tdiv 16)).tmod 4=0 then [0,1] else if 0 <i/\(IntKind.i64.wrap (k.tdiv 4)).tmod 2=0 then [(IntKind.i64.wrap (k.tdiv 8)).tmod i] else []
def gU(i:Nat)(k:Int)(b:F)(d0 d4 dI:D)(N:dI.copy=(b.ins.map Ivl.V:D))(xs:List V)(J:List Row)(hi:i<=3)(a6:xs.length<=3)(hh:BZ 5 xs=true)(Q:AExit->St->Prop)(hQ:∀J',Q .normal ⟨[(0,d0),(3,.W 130 5 (xs++[Clm.V ⟨SO i k,b⟩])),(4,d4),(5,(i:D))],J'⟩):
  ∀e,AK e 0=d0->AK e 3= .W 130 5 xs->AK e 4=d4->AK e 5=(i:D)->AK e 6=(k:D)->AK e 7= .R J.length 0->AX V9 Q ⟨e,
   J++[.cells [.W 3 1 [],b.op,b.n,dI,(b.kids.map F.V:D)]]⟩:=by
 simp only[D.copy]at N;intro e f0 f3 f4 f5 f6 f7;have G:AV (xs.length+1) 88=true:=by simp[AV];omega
 have U:∀(refs:List Int)J',refs=SO i k->Q .normal ⟨[(0,d0),(3,.W 130 5 (xs++[V.agg [.list (refs.map (.int .i64)),(b.op:V),(b.n:V),(b.ins.map Ivl.V:V),(b.kids.map F.V:V)]])),(4,d4),(5,(i:D))],J'⟩:=by rintro refs J' rfl;exact hQ J'
 clear hQ;unfold SO at U;unfold V9;simp only[AH,AJ,AO,AB 124 10];simp[f0,f3,f4,f5,f6,f7];by_cases a1:i=0
 .subst a1;simp[AD,AB 124 12,AB 124 14,G,N];exact U [] _ Ac
 have Z:0 <i:=AE;have a2:(i:Int)≠0:=AE;by_cases h2:(IntKind.i64.wrap (k.tdiv 4)).tmod 2=0
 .simp[Z,h2,AB 124 11,a1];by_cases h3:i=2
  .subst h3;by_cases O:(IntKind.i64.wrap (k.tdiv 16)).tmod 4=0
   .simp[AB 124 12,O,AB 124 13,AB 124 14,G,N];exact U [0,1] _ (by simp[O])
   .simp[AB 124 12,O,AD,AB 124 14,G,N];exact U [(IntKind.i64.wrap (k.tdiv 8)).tmod 2] _ (by simp[O,h2])
  .have W:¬(i:Int)=2:=AE;simp[AB 124 12,W,AD,AB 124 14,G,N];exact U [(IntKind.i64.wrap (k.tdiv 8)).tmod i] _ (by simp[h3,h2,Z])
 .simp[Z,h2,AD];by_cases h3:i=2
  .subst h3;by_cases O:(IntKind.i64.wrap (k.tdiv 16)).tmod 4=0
   .simp[AB 124 12,O,AB 124 13,AB 124 14,G,N];exact U [0,1] _ (by simp[O])
   .simp[AB 124 12,O,AB 124 14,G,N];exact U [] _ (by simp[O,h2])
  .have W:¬(i:Int)=2:=AE;simp[AB 124 12,W,AB 124 14,G,N];exact U [] _ (by simp[h3,h2])
def gV(k:Int)(f g:F)(hg:PX 212 [((IntKind.i64.wrap (k.tdiv 4):Int):V)] [g.V])(d0 N O:D)(xs:List V)(J:List Row)(Q:AExit->St->Prop)(G:∀(b:F)e(U:D),U.copy=(b.ins.map Ivl.V:D)->b=(if k.tmod 4=0 then .mk 5 0 [] [f,g] else f)->AK e 0=d0->AK e 3= .W 130 5 xs->AK e 4=N->AK e 5=O->AK e 6=(k:D)->AK e 7= .R J.length 0->Q .normal ⟨e,
   J++[.cells [.W 3 1 [],b.op,b.n,U,(b.kids.map F.V:D)]]⟩):
  AX WA Q ⟨[(0,d0),(3,.W 130 5 xs),(4,N),(5,O),(6,(k:D)),(7,.R J.length 0)],
   J++[.cells [.W 3 1 [],f.op,f.n,(f.ins.map Ivl.V:D),(f.kids.map F.V:D)]]⟩:=by
 unfold WA;simp only[AH,AJ,AO,AB 124 8];simp;by_cases W:k.tmod 4=0
 .rw[if_pos W]at G ⊢;have G:=G _ [(0,d0),(3,.W 130 5 xs),(4,N),(5,O),(6,(k:D)),(7,.R J.length 0)] (.W 368 8 []) rfl rfl rfl rfl rfl rfl rfl rfl;simp only[F.op,F.n,F.kids,rq,sq]at G;rw[F.V_flds]at hg;rw[F.V_flds f,F.V_flds g]at G;simp only[Aa,AB 124 9];simp;refine⟨_,_,⟨rfl,rfl⟩,_,hg,?_⟩;simp[AQ];exact G
 .rw[if_neg W]at G ⊢;rw[AD];exact G f _ _ rfl rfl rfl rfl rfl rfl rfl rfl
def nV(l:List Int):PX 124 [AM .i64 l] [.list ((CR l).map Clm.V)]:=by
 refine BS 124 ?_;have p1:=(SR l 0 3 Ah).fsp;have hb:=Ez l 0 3 Ah;have hm:Iy l=(1+Aq l 0 3).toNat:=rfl;have a1:=Jg l;have w1:IntKind.i64.wrap (1+Aq l 0 3)=1+Aq l 0 3:=AS AE AE;simp[AM]at p1;simp only[As 124,AH,AJ,AY,AB 124 0,AB 124 1,AB 124 2,AB 124 3,Ad];simp[AM];refine⟨_,_,p1 _,?_⟩;simp[w1];generalize 1+Aq l 0 3=M at*;refine Ag (Iy l) (λi s=>s.e=[(0,.v (AM .i64 l)),(3,.W 130 5 ((List.range i).map λj=>(HF l j).V)),(4,(M:D)),(5,(i:D))]) (by simp[AM]) ?_;rintro i ⟨se,J⟩ hi he;simp only at he;subst he;rw[T5];simp only[Zw,AB 124 4];simp[AM];by_cases W:i <Iy l
 .have G:(i:Int) <M:=AE;have v1:IntKind.i64.wrap (2*(i:Int))=2*i:=AS AE AE;have v2:IntKind.i64.wrap (2*(i:Int)+1)=2*i+1:=AS AE AE;have v3:IntKind.i64.wrap (2*(i:Int)+2)=2*i+2:=AS AE AE;have hw:=Bt i;have p2:=(SR l (2*i+1) 1000 Ah).fsp;have p3:=(SR l (2*i+2) 1048576 Ah).fsp;have O:∀b,b=(if (Aq l (2*i+1) 1000).tmod 4=0 then F.mk 5 0 [] [Dt (Aq l (2*i+2) 1048576),Dt (IntKind.i64.wrap ((Aq l (2*i+1) 1000).tdiv 4))] else Dt (Aq l (2*i+2) 1048576))->(⟨SO i (Aq l (2*i+1) 1000),b⟩:Clm)=HF l i:=by rintro b rfl;rfl
  have Z:=(du (Aq l (2*i+2) 1048576)).fsp;have p5:=du (IntKind.i64.wrap ((Aq l (2*i+1) 1000).tdiv 4));generalize Aq l (2*i+1) 1000=k at*;generalize Aq l (2*i+2) 1048576=m at*;generalize Dt m=f at*;generalize Dt (IntKind.i64.wrap (k.tdiv 4))=g at*;rw[F.V_flds]at Z;simp[AM]at p2 p3 Z;rw[if_pos G,AD];simp only[AB 124 6];simp[v1,v2];refine⟨_,_,p2 _,?_⟩;simp[AB 124 7,v1,v3];refine⟨_,_,p3 _,?_⟩;simp;refine⟨_,_,Z _,?_⟩;simp[AQ];refine gV k f g p5 _ _ _ _ J _ ?_;intro b e dI U N f0 f3 f4 f5 f6 f7;simp only[];refine gU i k b _ _ dI U _ J AE Dd ?_ _ ?_ e f0 f3 f4 f5 f6 f7
  .cases i with
   |zero=>rfl
   |succ i=>simp[u9,Clm.V]
  .intro J';rw[O b N];simp[AB 124 5,hw,W,tF]
 .have:i=Iy l:=AE;subst this;have G:¬((Iy l:Nat):Int) <M:=AE;rw[if_neg G,AN];simp[AA,AB 124 15,AW 124,CR,ud]
def Tw(l:List Int)(i:Nat):Dat:=⟨i,(Aq l (4+i) 1000).tmod 3,IntKind.i64.wrap (36000+(Aq l (4+i) 1000).tmod 50),(Aq l (4+i) 1000).tmod 20⟩
def NN(l:List Int)(i:Nat):Option Int:=if (Aq l (4+i) 1000).tmod 5=0 then some i else none
def U8(l:List Int)(i:Nat):Own:=⟨IntKind.i64.wrap (1+2*i+(Aq l (9+i) 1000).tmod 2),1,Aq l 8 3⟩
def Oq(l:List Int)(i:Nat):Option Lic:=
 let k:=Aq l (9+i) 1000
 if k.tmod 3=0 then some ⟨IntKind.i64.wrap (1+k.tmod 5),IntKind.i64.wrap (2+k.tmod 7),k,IntKind.i64.wrap (k+IntKind.i64.wrap (k.tdiv 7))⟩ else none
def Ed(l:List Int):Rgt:=
 ⟨Aq l 0 40,Aq l 1 5,if Aq l 2 3=0 then Aq l 3 5 else 0,CR l,(List.range (CR l).length).map (Tw l),(List.range (CR l).length).filterMap (NN l),
  (List.range (Aq l 8 3).toNat).map (U8 l),(List.range (Aq l 8 3).toNat).filterMap (Oq l)⟩
def LM(l:List Int):(CR l).length<=3:=by have:=Jg l;simpa[CR]using this
def mkR(a b c:Int)(cl:List Clm)(ds:List Dat)(bad:List Int)(os:List Own)(ls:List Lic):Row:=
 .cells [.v (.int .i64 a),.v (.int .i64 b),.v (.int .i64 c),.v (.list (cl.map Clm.V)),.W 131 4 (ds.map Dat.V),.W 3 1 (bad.map (.int .i64)),.W 135 3 (os.map Own.V),.W 137 4 (ls.map Lic.V)]
def fY(l:List Int)(a b c:Int)(cl:List Clm)(W:cl.length<=3)(R0:Row):
  AX (.loop (lG 48 0)) (λe s=>e= .exit 0/\AK s.e 0= .v (AM .i64 l)/\AK s.e 2= .R 0 0/\AK s.e 3= .R 1 0/\s.h=[R0,mkR a b c cl ((List.range cl.length).map (Tw l)) ((List.range cl.length).filterMap (NN l)) [] []])
   ⟨[(0,.v (AM .i64 l)),(2,.R 0 0),(3,.R 1 0),(4,((0:Int):D))],[R0,mkR a b c cl [] [] [] []]⟩:=by
 refine Ab cl.length (λi=>⟨[(0,.v (AM .i64 l)),(2,.R 0 0),(3,.R 1 0),(4,(i:D))],[R0,mkR a b c cl ((List.range i).map (Tw l)) ((List.range i).filterMap (NN l)) [] []]⟩) Ac ?_;intro i hi;simp only[Zw,BG 48 0,AB 48 5];simp[mkR];by_cases G:i <cl.length
 .have v1:IntKind.i64.wrap (4+(i:Int))=4+i:=AS AE AE;have O:=Bt i;have U:=(SR l (4+i) 1000 Ah).fsp;have Z:((List.range i).filterMap (NN l)).length<=i:=by have:=tx (NN l) (List.range i);simpa using this
  have r1:AV (i+1) 32=true:=by simp[AV];omega
  have r2:AV (((List.range i).filterMap (NN l)).length+1) 8=true:=by simp[AV];omega
  simp[AM]at U;have hd:Tw l i=⟨i,(Aq l (4+i) 1000).tmod 3,IntKind.i64.wrap (36000+(Aq l (4+i) 1000).tmod 50),(Aq l (4+i) 1000).tmod 20⟩:=rfl;have N:NN l i=if (Aq l (4+i) 1000).tmod 5=0 then some (i:Int) else none:=rfl;generalize Aq l (4+i) 1000=k at*;rw[CF,AD];simp only[AB 48 7];simp[v1,AM];refine⟨_,_,U _,?_⟩;simp[AB 48 8,AQ,r1];by_cases J:k.tmod 5=0
  .simp[AB 48 9,J,AB 48 10,r2,AB 48 6,O,G,tF,hd,N,Dat.V]
  .simp[AB 48 9,J,AD,AB 48 6,O,G,tF,hd,N,Dat.V]
 .have:i=cl.length:=AE;subst this;rw[Bj,AN];simp
def fX(l:List Int)(a b c:Int)(cl:List Clm)(ds:List Dat)(bad:List Int)(R0:Row):
  AX (.loop (lG 48 1)) (λe s=>e= .exit 2/\AK s.e 2= .R 0 0/\AK s.e 3= .R 1 0/\s.h=[R0,mkR a b c cl ds bad ((List.range (Aq l 8 3).toNat).map (U8 l)) ((List.range (Aq l 8 3).toNat).filterMap (Oq l))])
   ⟨[(0,.v (AM .i64 l)),(2,.R 0 0),(3,.R 1 0),(6,((Aq l 8 3:Int):D)),(7,((0:Int):D))],[R0,mkR a b c cl ds bad [] []]⟩:=by
 have hN:=Ez l 8 3 Ah;have Z:∀i,U8 l i=⟨IntKind.i64.wrap (1+2*i+(Aq l (9+i) 1000).tmod 2),1,Aq l 8 3⟩:=λ_=>rfl;generalize Aq l 8 3=N at*;refine Ab N.toNat (λi=>⟨[(0,.v (AM .i64 l)),(2,.R 0 0),(3,.R 1 0),(6,(N:D)),(7,(i:D))],[R0,mkR a b c cl ds bad ((List.range i).map (U8 l)) ((List.range i).filterMap (Oq l))]⟩) Ac ?_;intro i hi;simp only[Zw,BG 48 1,AB 48 13];simp[mkR];by_cases a2:i <N.toNat
 .have G:(i:Int) <N:=AE;have v1:IntKind.i64.wrap (9+(i:Int))=9+i:=AS AE AE;have v2:IntKind.i64.wrap (2*(i:Int))=2*i:=AS AE AE;have v3:IntKind.i64.wrap (1+2*(i:Int))=1+2*i:=AS AE AE;have U:=Bt i;have W:=(SR l (9+i) 1000 Ah).fsp;have a1:((List.range i).filterMap (Oq l)).length<=i:=by have:=tx (Oq l) (List.range i);simpa using this
  have r1:AV (i+1) 24=true:=by simp[AV];omega
  have r2:AV (((List.range i).filterMap (Oq l)).length+1) 32=true:=by simp[AV];omega
  simp[AM]at W;have hd:=Z i;have O:Oq l i=if (Aq l (9+i) 1000).tmod 3=0 then some ⟨IntKind.i64.wrap (1+(Aq l (9+i) 1000).tmod 5),IntKind.i64.wrap (2+(Aq l (9+i) 1000).tmod 7),(Aq l (9+i) 1000),IntKind.i64.wrap ((Aq l (9+i) 1000)+IntKind.i64.wrap ((Aq l (9+i) 1000).tdiv 7))⟩ else none:=rfl;generalize Aq l (9+i) 1000=k at*;rw[CF,AD];simp only[AB 48 15];simp[v1,AM];refine⟨_,_,W _,?_⟩;simp[AB 48 16,AQ,r1,v2,v3];by_cases J:k.tmod 3=0
  .simp[AB 48 17,J,AB 48 18,AQ,r2,AB 48 14,U,G,tF,hd,O,Own.V,Lic.V]
  .simp[AB 48 17,J,AD,AB 48 14,U,G,tF,hd,O,Own.V]
 .have:i=N.toNat:=AE;subst this;rw[Bj,AN];simp
def bV:AC:=(.seq (.seq (.reg (oG 48 4) [0,2,3,4]) (.block 0 (.loop (lG 48 0)))) (.seq (.reg (oG 48 11) [0,2,3,6]) (.seq (.seq (.reg (oG 48 12) [0,2,3,6,7]) (.block 2 (.loop (lG 48 1)))) (.seq (.reg (oG 48 19) [2]) .ret))))
def bW:(gA 48)=(.seq (.reg (oG 48 0) [0,2]) (.seq (.reg (oG 48 1) [0,2,3]) (.seq (.seq (.reg (oG 48 2) [0,2,3,18]) (.cond (.t 18 false) (.reg (oG 48 3) [0,2,3]) .skip)) bV))):=(As 48 :)
def qj(l:List Int):PX 48 [AM .i64 l] [(Ed l).V]:=by
 refine BS 48 ?_;have p1:=(SR l 0 40 Ah).fsp;have p2:=(SR l 1 5 Ah).fsp;have p3:=(nV l).fsp;have p4:=(SR l 2 3 Ah).fsp;have p5:=(SR l 3 5 Ah).fsp;have p6:=(SR l 8 3 Ah).fsp;have O:=λc R0=>fY l (Aq l 0 40) (Aq l 1 5) c (CR l) (LM l) R0;have U:=λc ds bad R0=>fX l (Aq l 0 40) (Aq l 1 5) c (CR l) ds bad R0;simp[AM,mkR]at p1 p2 p3 p4 p5 p6 O U;rw[bW];simp only[AH,AJ,AO,AB 48 0,AB 48 1,Ad];simp[AM];refine⟨_,_,p1 _,?_⟩;simp;refine⟨_,_,p2 _,?_⟩;simp;refine⟨_,_,p3 _,?_⟩;simp[AQ,AB 48 2];refine⟨_,_,p4 _,?_⟩;simp;have fin:∀(c:Int)(e:CC),AK e 0= .v (AM .i64 l)->AK e 2= .R 0 0->AK e 3= .R 1 0->c=(if Aq l 2 3=0 then Aq l 3 5 else 0)->
   AX bV (λe s=>(match e with| .exit _=>False|_=>True)/\Cf s (gR 48)=some [(Ed l).V])
    ⟨e,[.cells [((0:Int):D),((0:Int):D),((0:Int):D),.W 130 5 [],.W 131 4 [],.W 3 1 [],.W 135 3 [],.W 137 4 []],
     .cells [((Aq l 0 40:Int):D),((Aq l 1 5:Int):D),c,.v (.list ((CR l).map Clm.V)),.W 131 4 [],.W 3 1 [],.W 135 3 [],.W 137 4 []]]⟩:=by
  intro c e f0 f2 f3 hc;unfold bV;simp only[AH,AJ,AY,AB 48 4];simp[f0,f2,f3,AM];refine Ap _ ?_ (O c _);rintro e ⟨se,sh⟩ ⟨rfl,Z,G,J,N⟩;simp only at Z G J N;subst N;simp[AB 48 11,Z,G,J];refine⟨_,_,p6 _,?_⟩;simp[AB 48 12];have q:=U c ((List.range (CR l).length).map (Tw l)) ((List.range (CR l).length).filterMap (NN l)) (.cells [((0:Int):D),((0:Int):D),((0:Int):D),.W 130 5 [],.W 131 4 [],.W 3 1 [],.W 135 3 [],.W 137 4 []]);simp at q;refine Ap _ ?_ q;rintro e ⟨se,sh⟩ ⟨rfl,G,J,N⟩;simp only at G J N;subst N;simp[AB 48 19,G,J,AA,AW 48,AQ,Ed,Rgt.V,Rgt.cs,AM,hc]
 by_cases W:Aq l 2 3=0
 .simp[W,AB 48 3];refine⟨_,_,p5 _,?_⟩;simp[AQ];exact fin _ _ rfl rfl rfl (by simp[W])
 .simp[W,AD];exact fin _ _ rfl rfl rfl (by simp[W])
section
def Ex(n:Int):i64 (IntKind.i64.wrap n):=by have J:=Int.emod_nonneg n (b:=18446744073709551616) Ah;have h2:=Int.emod_lt_of_pos n (b:=18446744073709551616) Ah;unfold IntKind.wrap i64;simp only[IntKind.bits,IntKind.signed];have G:((2:Int)^64)=18446744073709551616:=Ah;have e2:((2:Int)^(64-1))=9223372036854775808:=Ah;simp only[G,e2,sV,decide_eq_true_eq,ge_iff_le];split<;>omega
def UR(b n:Int)(G:0 <n): -n <b.tmod n/\b.tmod n <n:=by have J:=ue b G;have h2:=ue (-b) G;rw[Int.neg_tmod]at h2;omega
def IY(b n:Int)(G:0 <n)(h:n<=2^40):i64 (b.tmod n):=by have:=UR b n G;unfold i64;omega
def U0(l:List Int)(i n:Int)(G:0 <n)(h:n<=2^40):i64 (Aq l i n):=by have:=Ez l i n G;unfold i64;omega
structure F.tiny (m:Nat) (f:F):Prop where
 one:∀g∈f.nodes,g.ok1/\g.ins.length<=1
 len:f.nodes.length<=m
 size:f.size<=m
def F.tiny.ok{m:Nat}{f:F}(h:f.tiny m)(G:m<=2^20):f.ok:=⟨λg hg=>(h.one g hg).1,by have:=h.size;omega⟩
def Lq{α:Type}{f:α->List Int}(c:Nat):∀l:List α,(∀x∈l,(f x).length<=c)->(l.flatMap f).length<=c*l.length
 |[],_=>Ac
 |x::l,h=>by have J:=h x Ac;have h2:=Lq c l λy G=>h y (by simp[G]);simp only[r7,re,sF,ux];omega
def HB(l:List Int):(BI l).length<=10+10*l.length:=by have G:=Cu l.length;have h2:=CQ l;rw[BI,re];omega
variable {m:Nat}
def F.tiny.enc{f:F}(h:f.tiny m):(Bi f).length<=200*m:=by
 have key:=Lq (f:=C9) 200 f.nodes λg hg=>by
  have G:=(h.one g hg).2;have h2:=Lq (f:=CM) 100 g.ins λx _=>by have:=HB [x.ln,x.ld,x.hn,x.hd,Hp x.lo,Hp x.ho,Hp x.li,Hp x.hi];simp only[sF,t6]at this;exact sS this Ah
  have:=Al g.op;have:=Al g.n;have:=Al g.ins.length;have:=Al g.kids.length;simp only[C9,re];omega
 have:=h.len;have:200*f.nodes.length<=200*m:=vJ _ this;exact sS key this
def GB(k:Int):(DK k).tiny 1:=by refine⟨?_,by simp[DK,F.nodes_eq],by simp[DK,F.size_eq]⟩;simp only[DK,F.nodes_eq,uO,rm,forall_eq,F.ok1,F.op,F.n,F.ins];exact⟨⟨by unfold i64;omega,IY _ _ Ah Ah,Ac,Ac⟩,Ac⟩
def K9(k:Int):(Di k).tiny 1:=by refine⟨?_,by simp[Di,F.nodes_eq],by simp[Di,F.size_eq]⟩;simp only[Di,F.nodes_eq,uO,rm,forall_eq,F.ok1,F.op,F.n,F.ins];exact⟨⟨by unfold i64;omega,IY _ _ Ah Ah,⟨IY _ _ Ah Ah,by simp[i64],Ex _,by simp[i64]⟩,Ac⟩,Ac⟩
def Fg{op:Int}{kids:List F}(U:i64 op)(G:∀k∈kids,k.tiny m):(F.mk op 0 [] kids).tiny (1+m*kids.length):=by
 have s:∀l:List F,(∀k∈l,k.tiny m)->(l.flatMap F.nodes).length<=m*l.length/\(l.map F.size).sum<=m*l.length:=by
  intro l;induction l with
  |nil=>simp
  |cons x l ih=>
   intro h;have O:=h x Ac;have h2:=ih λk G=>h k (by simp[G]);have:=O.len;have:=O.size;simp only[r7,re,sF,rq,tV,ux];omega
 have s1:=s kids G;refine⟨?_,by rw[F.nodes_eq,sF];omega,by rw[F.size_eq];omega⟩;intro g hg;rw[F.nodes_eq]at hg;rcases rj.1 hg with rfl|hg
 .exact⟨⟨U,by simp[F.n,i64],by simp[F.ins],by simp[F.ins]⟩,by simp[F.ins]⟩
 .obtain⟨k,J,N⟩:=sj.1 hg;exact(G k J).one g N
variable {n:Nat}
def F.tiny.mono{f:F}(h:f.tiny m)(G:m<=n):f.tiny n:=⟨h.one,sS h.len G,sS h.size G⟩
theorem K8(n:Int):(Dt n).tiny 3:=by
 unfold Dt;generalize Af n 1048576=k;have o:∀n:Int,0<=n->n<=6->i64 n:=λn G h2=>by unfold i64;omega
 simp only
 repeat' split
 .exact(GB k).mono Ah
 .exact(K9 k).mono Ah
 .exact(Fg (m:=1) (o _ Ah Ah) (by simp[GB,K9])).mono Ac
 .exact(Fg (m:=1) (o _ Ah Ah) (by simp[GB])).mono Ac
 .exact(Fg (m:=1) (o _ Ah Ah) (by simp[GB])).mono Ac
structure Clm.tiny (c:Clm):Prop where
 refs:∀n∈c.refs,i64 n
 lr:c.refs.length<=2
 body:c.body.tiny 7
def Clm.tiny.ok{c:Clm}(h:c.tiny):c.ok:=⟨h.refs,by have:=h.lr;omega,h.body.ok Ah⟩
theorem IP(l:List Int)(i:Nat)(hi:i<=3):(HF l i).tiny:=by
 unfold HF;generalize Aq l (2*i+1) 1000=k;generalize Aq l (2*i+2) 1048576=m;refine⟨?_,?_,?_⟩
 .simp only;split
  .simp[i64]
  .split
   .rename_i h;simp only[rm,forall_eq];exact IY _ _ AE AE
   .simp
 .simp only;split
  .simp
  .split<;>simp
 .simp only;split
  .exact(Fg (m:=3) (by unfold i64;omega) (by simp[K8])).mono Ac
  .exact(K8 m).mono Ah
structure Rgt.tiny (m:Nat) (r:Rgt):Prop where
 file:i64 r.file
 state:i64 r.state
 force:i64 r.force
 claims:∀c∈r.claims,c.tiny
 dates:∀d∈r.dates,d.ok
 bad:∀n∈r.bad,i64 n
 owners:∀o∈r.owners,o.ok
 lics:∀h∈r.lics,h.ok
 lc:r.claims.length<=m
 ld:r.dates.length<=m
 lb:r.bad.length<=m
 lo:r.owners.length<=m
 ll:r.lics.length<=m
def Tu{c:Clm}(h:c.tiny):(Bb c).length<=1500:=by have G:=HB c.refs;have h2:=h.lr;have J:=h.body.enc;have N:=Cu (Bi c.body).length;simp only[Bb,BR,re];omega
def HC{l:List Clm}(h:∀c∈l,c.tiny):(BM l).length<=10+1500*l.length:=by have G:=Lq (f:=Bb) 1500 l λc hc=>Tu (h c hc);have h2:=Al l.length;simp only[BM,re];omega
def Rgt.tiny.ok{m:Nat}{r:Rgt}(h:r.tiny m)(G:m<=2^20):r.ok:=by have:=h.lc;have:=h.ld;have:=h.lb;have:=h.lo;have:=h.ll;have:=HC h.claims;exact⟨h.file,h.state,h.force,λc hc=>(h.claims c hc).ok,h.dates,h.bad,h.owners,h.lics,AE,AE,AE,AE,AE,AE⟩
theorem Q8(l:List Int):(Ed l).tiny 3:=by
 have hc:=LM l;have G:=Ez l 8 3 Ah;have o:∀i n:Int,0 <n->n<=2^40->i64 (Aq l i n):=λi n=>U0 l i n;refine⟨o 0 40 Ah Ah,o 1 5 Ah Ah,?_,?_,?_,?_,?_,?_,hc,?_,?_,?_,?_⟩
 .simp only[Ed];split
  .exact o 3 5 Ah Ah
  .simp[i64]
 .intro c h;simp only[Ed,CR,rl,sM]at h;obtain⟨i,hi,rfl⟩:=h;have:=Jg l;exact IP l i AE
 .intro d h;simp only[Ed,rl,sM]at h;obtain⟨i,hi,rfl⟩:=h;exact⟨by simp only[Tw];unfold i64;omega,IY _ _ Ah Ah,Ex _,IY _ _ Ah Ah⟩
 .intro n h;simp only[Ed,List.mem_filterMap,sM,NN]at h;obtain⟨i,hi,h⟩:=h;split at h
  .simp only[rV]at h;subst h;unfold i64;omega
  .simp at h
 .intro w h;simp only[Ed,rl,sM]at h;obtain⟨i,hi,rfl⟩:=h;exact⟨Ex _,by simp[U8,i64],o 8 3 Ah Ah⟩
 .intro w h;simp only[Ed,List.mem_filterMap,sM,Oq]at h;obtain⟨i,hi,h⟩:=h;split at h
  .simp only[rV]at h;subst h;exact⟨Ex _,Ex _,o (9+i) 1000 Ah Ah,Ex _⟩
  .simp at h
 .simp only[Ed,sD,uy];exact hc
 .have:=tx (NN l) (List.range (CR l).length);simp only[Ed];rw[uy]at this;omega
 .simp only[Ed,sD,uy];omega
 .have:=tx (Oq l) (List.range (Aq l 8 3).toNat);simp only[Ed];rw[uy]at this;omega
end
def LY(n lo hi:Int):PX 125 [n,lo,hi] [.bool (ED n lo hi)]:=by refine BS 125 ?_;by_cases G:lo<=n<;>by_cases h2:n<=hi<;>simp[As 125,awp,AB 125 0,AB 125 1,AW 125,Ad,G,h2,ED]
def LX(n lo hi:Int):PX 216 [n,lo,hi] [.bool (ED n lo hi)]:=by refine BS 216 ?_;by_cases G:lo<=n<;>by_cases h2:n<=hi<;>simp[As 216,awp,AB 216 0,AB 216 1,AW 216,Ad,G,h2,ED]
def mN(a b:Dat):PX 220 [a.V,b.V] [.bool (Ha a b)]:=by
 refine BS 220 ?_;unfold Ha;by_cases G:a.cl <b.cl
 .simp[As 220,awp,AB 220 0,AB 220 1,AW 220,Ad,Dat.V,G]
 .by_cases h2:a.cl=b.cl
  .simp[As 220,awp,AB 220 0,AB 220 1,AW 220,Ad,Dat.V,h2]
  .simp[As 220,awp,AB 220 0,AB 220 1,AW 220,Ad,Dat.V,G,h2]
def mJ(a b:Int):PX 224 [a,b] [(decide (a <b):V)]:=by refine BS 224 ?_;simp[As 224,awp,AB 224 0,AB 224 1,AW 224,Ad]
def mE(a b:Own):PX 229 [a.V,b.V] [(decide (a.party <b.party):V)]:=by refine BS 229 ?_;simp[As 229,awp,AB 229 0,AB 229 1,AW 229,Ad,Own.V]
def mC(x:Lic):PX 231 [x.V] [.bool (HW x)]:=by
 refine BS 231 ?_;have G:=(LX x.fr 1 4095).fsp;have J:=(LX x.to 1 4095).fsp;have N:=(LX x.fst 0 x.lst).fsp;unfold HW;generalize ED x.fr 1 4095=A at*;generalize ED x.to 1 4095=B at*;generalize ED x.fst 0 x.lst=C at*;simp at G J N;simp only[As 231,AH,AJ,AB 231 0,AB 231 1,Ad];simp[Lic.V];refine⟨_,_,G _,?_⟩;cases A with
 |false=>simp[AA,AW 231]
 |true=>
  simp;refine⟨_,_,J _,?_⟩;cases B with
  |false=>simp[AA,AW 231]
  |true=>
   simp;refine⟨_,_,N _,?_⟩;cases C with
   |false=>simp[AA,AW 231]
   |true=>simp[AA,AW 231]
def ep:Ef 1 1=true:=Ah
def mG(x:Own)(hx:x.ok):PX 226 [x.V] [.bool (Fn x)]:=by
 refine BS 226 ?_;have N:=(LX x.party 1 4095).fsp;have G:=(dt x.num x.den 1 1 hx.2.1 hx.2.2 (by unfold i64;omega) (by unfold i64;omega)).fsp;rw[ep,uP]at G;unfold Fn;generalize ED x.party 1 4095=A at*;simp only[As 226,AH,AJ,AB 226 0,AB 226 1,Ad];simp[Own.V];cases hR:Ef x.num x.den with
 |false=>
  rw[hR]at G;simp[BE]at N G;refine⟨_,_,G _,?_⟩;simp[AB 226 2];refine⟨_,_,N _,?_⟩;cases A<;>simp[AA,AW 226]
 |true=>
  rw[hR]at G;simp[BE]at N G;refine⟨_,_,G _,?_⟩;simp[AB 226 2];refine⟨_,_,N _,?_⟩;have hc:(Qm x.num x.den 1 1<=0)↔x.num<=x.den:=by unfold Qm;simp;split<;>(try split)<;>omega
  cases A with
  |false=>simp[AA,AW 226]
  |true=>
   by_cases J:x.num<=x.den
   .have h2:=hc.2 J;simp[h2,J,AA,AW 226]
   .have h2:¬Qm x.num x.den 1 1<=0:=λh=>J (hc.1 h);simp[h2,J,AA,AW 226]
def Low(h:List Row):Prop:=∀row∈h,Row.low h.length row=true
def mQ(x:Dat)(n:Int)(h:List Row)(r:Nat)(Z:h[r]?=some (.cells [n]))(hn:0<=n/\n<=2^40)(W:Low h):
  FX 218 [.v x.V,.R r 0] h [.v (.bool (ED x.cl 0 (n-1)&&ED x.ix 0 63&&ED x.day 0 131072&&ED x.file 0 4095))] h:=by
 refine At (D6 218) rfl (ri _) W (by simp[D.lt]) ?_;have w1:IntKind.i64.wrap (n-1)=n-1:=AS AE AE;have J:=(LX x.cl 0 (n-1)).fsp;have N:=(LX x.ix 0 63).fsp;have O:=(LX x.day 0 131072).fsp;have U:=(LX x.file 0 4095).fsp;have G:=AU [.cells [x.cl,x.ix,x.day,x.file]] Z;generalize ED x.cl 0 (n-1)=A at*;generalize ED x.ix 0 63=B at*;generalize ED x.day 0 131072=C at*;generalize ED x.file 0 4095=E at*;simp at J N O U;simp only[As 218,AH,AJ,AB 218 0,AB 218 1,AZ];simp[Dat.V,G,w1];refine⟨_,_,J _,?_⟩;cases A with
 |false=>simp[AA,AW 218]
 |true=>
  simp;refine⟨_,_,N _,?_⟩;cases B with
  |false=>simp[AA,AW 218]
  |true=>
   simp;refine⟨_,_,O _,?_⟩;cases C with
   |false=>simp[AA,AW 218]
   |true=>
    simp;refine⟨_,_,U _,?_⟩;cases E<;>simp[AA,AW 218]
def mL(x n:Int)(h:List Row)(r:Nat)(J:h[r]?=some (.cells [n]))(O:0<=n/\n<=2^40):
  FX 222 [x,.R r 0] h [.v (.bool (ED x 0 (n-1)))] h:=by
 refine EH 222 ?_;have N:IntKind.i64.wrap (n-1)=n-1:=AS AE AE;have G:=(LX x 0 (n-1)).fsp;simp at G;simp only[As 222,AH,AJ,AB 222 0,AB 222 1,AZ];simp[J,N];refine⟨_,_,G _,?_⟩;simp[AA,AW 222]
section
variable {row:Row} {h:List Row}
def Low.app(J:Low h)(N:Row.low (h.length+1) row=true):Low (h++[row]):=by
 intro x hx;rw[re];rcases rp.1 hx with hx|hx
 .have G:=J _ hx;cases x with
  |cells ds=>
   refine Fb λd hd=>?_;obtain⟨i,hi⟩:=uQ hd;exact FG Ac d (GC G hi)
  |_=>exact G
 .simp at hx;subst hx;exact N
def IdxR.map{P:Program}{GL:Ai}{fid:Nat}{caps:List D}{α:Type}{f:α->V}{p:α->Bool}{l:List α}{h:List Row}(G:∀x∈l,FSp P GL fid (.v (f x)::caps) h [.v (.bool (p x))] h):
  IdxR P GL fid caps (l.map f) h (l.findIdx? p) h:=by
 induction l with
 |nil=>exact⟨rfl,rfl⟩
 |cons x xs ih=>
  refine⟨p x,h,G x Ac,?_⟩;cases hx:p x with
  |true=>simp[tO,hx]
  |false=>
   simp only[rz,if_false];exact⟨_,ih λy J=>G y (by simp[J]),by simp[tO,hx]⟩
def GK{α:Type}(p:α->Bool)(l:List α):(l.findIdx? λx=> !p x).isSome= !l.all p:=by rw[DG,List.not_all_eq_any_not]
def Fl{α:Type}(f:α->α->Bool):∀l:List α,Cp f l=true↔∀(i:Nat)x y,l[i]?=some x->l[i+1]?=some y->f x y=true
 |[]=>by simp[Cp]
 |[x]=>by simp[Cp]
 |x::y::l=>by
  simp only[Cp,rX,Fl f (y::l)]
  constructor
  .rintro⟨N,h2⟩ i a b G J;cases i with
   |zero=>simp at G J;subst G;subst J;exact N
   |succ i=>exact h2 i a b (by simpa using G) (by simpa using J)
  .exact λh=>⟨h 0 x y rfl rfl,λi a b G J=>h (i+1) a b (by simpa using G) (by simpa using J)⟩
theorem kh(x:Dat)(b:Bool)(fd:D)(fid:Nat)(caps:List D)(N:FV fd fid caps)(h:List Row)(q:Nat)(hq:h[q]?=some (.cells [fd]))(W:Low h)(hp:∀H,Low H->(∀(i:Nat)y,h[i]?=some y->H[i]?=some y)->FX fid (.v x.V::caps) H [(b:D)] H):FX 288 [.v x.V,.R q 0] h [.v (.bool (!b))] h:=by
 refine At (D6 288) rfl (ri _) W (by simp[D.lt]) ?_;have U:=AU [.cells [x.cl,x.ix,x.day,x.file]] hq;have J:=hp _ (W.app (row:= .cells [x.cl,x.ix,x.day,x.file]) rfl) λ_ _ h=>AU _ h;have G:=N.cp;have O:=N.fn;have a1:=N.ny;have Z:=N.nt;simp only[D.copy]at G
 try simp[Dat.V,]at J
 simp only[As 288,AH,AJ,AB 288 0,AZ];simp[Dat.V,AB 288 1,U,G,-Dn,-D.norm];rw[O];simp;refine⟨_,_,J,?_⟩;simp[AA,AW 288]
def mR(l:List Dat)(P:Dat->Bool)(fd:D)(fid:Nat)(caps:List D)(hf:FV fd fid caps)(U:fd.cells?=some [fd])(W:fd.toRow=fd)(h:List Row)(hl:Low h)(O:D.lt h.length fd=true)(hn:l.length <2^40)(hp:∀x∈l,∀H,Low H->(∀(i:Nat)y,h[i]?=some y->H[i]?=some y)->FX fid (.v x.V::caps) H [.v (.bool (P x))] H):
  FX 217 [(l.map Dat.V:D),fd] h [.v (.bool (l.all P))] h:=by
 refine At (D6 217) rfl (ri _) hl (by simp[D.lt]) ?_;have J:=hf.cp;simp only[D.copy]at J;have Z:Low (h++[.cells [fd]]):=hl.app (by simp[Row.low,D.lts,FG (Nat.le_succ _) _ O]);have N:IdxR Tryz.prog BK 288 [.R h.length 0] (l.map Dat.V) (h++[.cells [fd]]) (l.findIdx? λx=> !P x) (h++[.cells [fd]]):=
  IdxR.map λx hx=>kh x (P x) fd fid caps hf _ h.length (Ii _ _) Z λH h1 h2=>hp x hx H h1 λi y hy=>h2 i y (AU _ hy)
 have G:=da (.func 288 [.R h.length 0]) 288 [.R h.length 0] (FV.r 288 h.length 0 []) (l.map Dat.V) (by simpa using hn) (by intro x hx;obtain⟨y,_,rfl⟩:=rl.1 hx;exact⟨_,rfl,rfl⟩) N
 rw[GK]at G;simp only[As 217,AH,AJ,AB 217 0,AZ];simp[J,U,W,-D.cells?,-D.toRow];simp only[AB 217 1];simp
 try simp at G
 refine⟨_,_,G,?_⟩;simp[AA,AW 217]
def kg(x:Int)(b:Bool)(fd:D)(fid:Nat)(caps:List D)(N:FV fd fid caps)(h:List Row)(q:Nat)(hq:h[q]?=some (.cells [fd]))(W:Low h)(hp:∀H,Low H->(∀(i:Nat)y,h[i]?=some y->H[i]?=some y)->FX fid ((x:D)::caps) H [(b:D)] H):FX 289 [x,.R q 0] h [.v (.bool (!b))] h:=by
 refine EH 289 ?_;have U:=hq;have J:=hp h W λ_ _ h=>h;have G:=N.cp;have O:=N.fn;have a1:=N.ny;have Z:=N.nt;simp only[D.copy]at G
 try simp[]at J
 simp only[As 289,AH,AJ,AB 289 0,AZ];simp[AB 289 1,U,G,-Dn,-D.norm];rw[O];simp;refine⟨_,_,J,?_⟩;simp[AA,AW 289]
def mM(l:List Int)(P:Int->Bool)(fd:D)(fid:Nat)(caps:List D)(hf:FV fd fid caps)(U:fd.cells?=some [fd])(W:fd.toRow=fd)(h:List Row)(hl:Low h)(O:D.lt h.length fd=true)(hn:l.length <2^40)(hp:∀x∈l,∀H,Low H->(∀(i:Nat)y,h[i]?=some y->H[i]?=some y)->FX fid ((x:D)::caps) H [.v (.bool (P x))] H):
  FX 221 [(l.map (V.int .i64):D),fd] h [.v (.bool (l.all P))] h:=by
 refine At (D6 221) rfl (ri _) hl (by simp[D.lt]) ?_;have J:=hf.cp;simp only[D.copy]at J;have Z:Low (h++[.cells [fd]]):=hl.app (by simp[Row.low,D.lts,FG (Nat.le_succ _) _ O]);have N:IdxR Tryz.prog BK 289 [.R h.length 0] (l.map (V.int .i64)) (h++[.cells [fd]]) (l.findIdx? λx=> !P x) (h++[.cells [fd]]):=
  IdxR.map λx hx=>kg x (P x) fd fid caps hf _ h.length (Ii _ _) Z λH h1 h2=>hp x hx H h1 λi y hy=>h2 i y (AU _ hy)
 have G:=W8 (.func 289 [.R h.length 0]) 289 [.R h.length 0] (FV.r 289 h.length 0 []) (l.map (V.int .i64)) (by simpa using hn) (by intro x hx;obtain⟨y,_,rfl⟩:=rl.1 hx;exact⟨_,rfl⟩) N
 rw[GK]at G;simp only[As 221,AH,AJ,AB 221 0,AZ];simp[J,U,W,-D.cells?,-D.toRow];simp only[AB 221 1];simp
 try simp at G
 refine⟨_,_,G,?_⟩;simp[AA,AW 221]
theorem kf(x:Own)(b:Bool)(fd:D)(fid:Nat)(caps:List D)(N:FV fd fid caps)(h:List Row)(q:Nat)(hq:h[q]?=some (.cells [fd]))(W:Low h)(hp:∀H,Low H->(∀(i:Nat)y,h[i]?=some y->H[i]?=some y)->FX fid (.v x.V::caps) H [(b:D)] H):FX 290 [.v x.V,.R q 0] h [.v (.bool (!b))] h:=by
 refine At (D6 290) rfl (ri _) W (by simp[D.lt]) ?_;have U:=AU [.cells [x.party,x.num,x.den]] hq;have J:=hp _ (W.app (row:= .cells [x.party,x.num,x.den]) rfl) λ_ _ h=>AU _ h;have G:=N.cp;have O:=N.fn;have a1:=N.ny;have Z:=N.nt;simp only[D.copy]at G
 try simp[Own.V,]at J
 simp only[As 290,AH,AJ,AB 290 0,AZ];simp[Own.V,AB 290 1,U,G,-Dn,-D.norm];rw[O];simp;refine⟨_,_,J,?_⟩;simp[AA,AW 290]
def mH(l:List Own)(P:Own->Bool)(fd:D)(fid:Nat)(caps:List D)(hf:FV fd fid caps)(U:fd.cells?=some [fd])(W:fd.toRow=fd)(h:List Row)(hl:Low h)(O:D.lt h.length fd=true)(hn:l.length <2^40)(hp:∀x∈l,∀H,Low H->(∀(i:Nat)y,h[i]?=some y->H[i]?=some y)->FX fid (.v x.V::caps) H [.v (.bool (P x))] H):
  FX 225 [(l.map Own.V:D),fd] h [.v (.bool (l.all P))] h:=by
 refine At (D6 225) rfl (ri _) hl (by simp[D.lt]) ?_;have J:=hf.cp;simp only[D.copy]at J;have Z:Low (h++[.cells [fd]]):=hl.app (by simp[Row.low,D.lts,FG (Nat.le_succ _) _ O]);have N:IdxR Tryz.prog BK 290 [.R h.length 0] (l.map Own.V) (h++[.cells [fd]]) (l.findIdx? λx=> !P x) (h++[.cells [fd]]):=
  IdxR.map λx hx=>kf x (P x) fd fid caps hf _ h.length (Ii _ _) Z λH h1 h2=>hp x hx H h1 λi y hy=>h2 i y (AU _ hy)
 have G:=dz (.func 290 [.R h.length 0]) 290 [.R h.length 0] (FV.r 290 h.length 0 []) (l.map Own.V) (by simpa using hn) (by intro x hx;obtain⟨y,_,rfl⟩:=rl.1 hx;exact⟨_,rfl,rfl⟩) N
 rw[GK]at G;simp only[As 225,AH,AJ,AB 225 0,AZ];simp[J,U,W,-D.cells?,-D.toRow];simp only[AB 225 1];simp
 try simp at G
 refine⟨_,_,G,?_⟩;simp[AA,AW 225]
theorem kZ(x:Lic)(b:Bool)(fd:D)(fid:Nat)(caps:List D)(N:FV fd fid caps)(h:List Row)(q:Nat)(hq:h[q]?=some (.cells [fd]))(W:Low h)(hp:∀H,Low H->(∀(i:Nat)y,h[i]?=some y->H[i]?=some y)->FX fid (.v x.V::caps) H [(b:D)] H):FX 294 [.v x.V,.R q 0] h [.v (.bool (!b))] h:=by
 refine At (D6 294) rfl (ri _) W (by simp[D.lt]) ?_;have U:=AU [.cells [x.fr,x.to,x.fst,x.lst]] hq;have J:=hp _ (W.app (row:= .cells [x.fr,x.to,x.fst,x.lst]) rfl) λ_ _ h=>AU _ h;have G:=N.cp;have O:=N.fn;have a1:=N.ny;have Z:=N.nt;simp only[D.copy]at G
 try simp[Lic.V,]at J
 simp only[As 294,AH,AJ,AB 294 0,AZ];simp[Lic.V,AB 294 1,U,G,-Dn,-D.norm];rw[O];simp;refine⟨_,_,J,?_⟩;simp[AA,AW 294]
def mD(l:List Lic)(P:Lic->Bool)(fd:D)(fid:Nat)(caps:List D)(hf:FV fd fid caps)(U:fd.cells?=some [fd])(W:fd.toRow=fd)(h:List Row)(hl:Low h)(O:D.lt h.length fd=true)(hn:l.length <2^40)(hp:∀x∈l,∀H,Low H->(∀(i:Nat)y,h[i]?=some y->H[i]?=some y)->FX fid (.v x.V::caps) H [.v (.bool (P x))] H):
  FX 230 [(l.map Lic.V:D),fd] h [.v (.bool (l.all P))] h:=by
 refine At (D6 230) rfl (ri _) hl (by simp[D.lt]) ?_;have J:=hf.cp;simp only[D.copy]at J;have Z:Low (h++[.cells [fd]]):=hl.app (by simp[Row.low,D.lts,FG (Nat.le_succ _) _ O]);have N:IdxR Tryz.prog BK 294 [.R h.length 0] (l.map Lic.V) (h++[.cells [fd]]) (l.findIdx? λx=> !P x) (h++[.cells [fd]]):=
  IdxR.map λx hx=>kZ x (P x) fd fid caps hf _ h.length (Ii _ _) Z λH h1 h2=>hp x hx H h1 λi y hy=>h2 i y (AU _ hy)
 have G:=ka (.func 294 [.R h.length 0]) 294 [.R h.length 0] (FV.r 294 h.length 0 []) (l.map Lic.V) (by simpa using hn) (by intro x hx;obtain⟨y,_,rfl⟩:=rl.1 hx;exact⟨_,rfl,rfl⟩) N
 rw[GK]at G;simp only[As 230,AH,AJ,AB 230 0,AZ];simp[J,U,W,-D.cells?,-D.toRow];simp only[AB 230 1];simp
 try simp at G
 refine⟨_,_,G,?_⟩;simp[AA,AW 230]
theorem mP(l:List Dat)(hn:l.length<=2^40):PX 219 [(l.map Dat.V:V),.func 220 []] [.bool (Cp Ha l)]:=by
 refine BS 219 ?_;obtain⟨R,U⟩:∃R,Cp Ha l=R:=⟨_,rfl⟩;rw[U];have O:=Fl Ha l;have Z:(if IntKind.i64.wrap ((l.length:Int)-1) <0 then 0 else IntKind.i64.wrap ((l.length:Int)-1))=((l.length-1:Nat):Int):=by rw[AS AE AE];split<;>omega
 simp only[As 219,AH,AJ,AY,AB 219 0,AB 219 1,Ad];simp[Z];refine Aw (l.length-1) (λk=>⟨[(0,(l.map Dat.V:D)),(1,.v (.func 220 [])),(9,((l.length-1:Nat):D)),(10,(k:D))],[]⟩) (λk=>∀j <k,∀x y,l[j]?=some x->l[j+1]?=some y->Ha x y=true) Ac Ac ?_;intro k hk hI;simp only[Zw,BG 219 0,AB 219 2];simp;by_cases W:k <l.length-1
 .obtain⟨x,hx⟩:∃x,l[k]?=some x:=⟨_,rW AE⟩;obtain⟨y,hy⟩:∃y,l[k+1]?=some y:=⟨_,rW AE⟩;have hw:IntKind.i64.wrap ((k:Int)+1)=((k+1:Nat):Int):=AS AE AE;have N:(0:Int)<=((k+1:Nat):Int):=AE;have a1:(k:Int) <((l.length-1:Nat):Int):=AE;have hp:=(mN x y).fsp;have G:(((k+1:Nat):Int)).toNat=k+1:=AE;generalize hb:Ha x y=b at*;rw[CF,AD];simp only[Aa,AB 219 3,AB 219 4];simp[Dat.V]at hp;simp only[tN,uz]at hw N G;simp[hx,hy,Dat.V,hw,N,G];refine⟨_,_,(hp []),?_⟩;cases b with
  |false=>
   have hf:R=false:=by
    rw[<-U];cases h:Cp Ha l with
    |false=>rfl
    |true=>exact absurd ((O.1 h k x y hx hy).symm.trans hb) Ah
   simp[AA,AB 219 5,AW 219,hf]
  |true=>
   simp[AD,AB 219 6,hw];refine⟨W,λj hj a c J hc=>?_⟩;rcases sL j k with h|h
   .simpa using hI j h a c J hc
   .have:j=k:=AE;subst this;rw[hx]at J;rw[hy]at hc;cases J;cases hc;simpa using hb
 .have a2:k=l.length-1:=AE;have ht:R=true:=by rw[<-U];refine O.2 λj a c J hc=>hI j ?_ a c J hc;have:=(rZ.1 hc).1;omega
  rw[Bj,AN];simp[AA,AB 219 7,AW 219,ht]
theorem mK(l:List Int)(hn:l.length<=2^40):PX 223 [(l.map (V.int .i64):V),.func 224 []] [.bool (Cp (λa b=>decide (a <b)) l)]:=by
 refine BS 223 ?_;obtain⟨R,U⟩:∃R,Cp (λa b=>decide (a <b)) l=R:=⟨_,rfl⟩;rw[U];have O:=Fl (λa b=>decide (a <b)) l;have Z:(if IntKind.i64.wrap ((l.length:Int)-1) <0 then 0 else IntKind.i64.wrap ((l.length:Int)-1))=((l.length-1:Nat):Int):=by rw[AS AE AE];split<;>omega
 simp only[As 223,AH,AJ,AY,AB 223 0,AB 223 1,Ad];simp[Z];refine Aw (l.length-1) (λk=>⟨[(0,(l.map (V.int .i64):D)),(1,.v (.func 224 [])),(9,((l.length-1:Nat):D)),(10,(k:D))],[]⟩) (λk=>∀j <k,∀x y,l[j]?=some x->l[j+1]?=some y->(λa b=>decide (a <b)) x y=true) Ac Ac ?_;intro k hk hI;simp only[Zw,BG 223 0,AB 223 2];simp;by_cases W:k <l.length-1
 .obtain⟨x,hx⟩:∃x,l[k]?=some x:=⟨_,rW AE⟩;obtain⟨y,hy⟩:∃y,l[k+1]?=some y:=⟨_,rW AE⟩;have hw:IntKind.i64.wrap ((k:Int)+1)=((k+1:Nat):Int):=AS AE AE;have N:(0:Int)<=((k+1:Nat):Int):=AE;have a1:(k:Int) <((l.length-1:Nat):Int):=AE;have hp:=(mJ x y).fsp;have G:(((k+1:Nat):Int)).toNat=k+1:=AE;generalize hb:(λa b=>decide (a <b)) x y=b at*;rw[CF,AD];simp only[Aa,AB 223 3,AB 223 4];simp[hb]at hp;simp only[tN,uz]at hw N G;simp[hx,hy,hw,N,G];refine⟨_,_,(hp []),?_⟩;cases b with
  |false=>
   have hf:R=false:=by
    rw[<-U];cases h:Cp (λa b=>decide (a <b)) l with
    |false=>rfl
    |true=>exact absurd ((O.1 h k x y hx hy).symm.trans hb) Ah
   simp[AA,AB 223 5,AW 223,hf]
  |true=>
   simp[AD,AB 223 6,hw];refine⟨W,λj hj a c J hc=>?_⟩;rcases sL j k with h|h
   .simpa using hI j h a c J hc
   .have:j=k:=AE;subst this;rw[hx]at J;rw[hy]at hc;cases J;cases hc;simpa using hb
 .have a2:k=l.length-1:=AE;have ht:R=true:=by rw[<-U];refine O.2 λj a c J hc=>hI j ?_ a c J hc;have:=(rZ.1 hc).1;omega
  rw[Bj,AN];simp[AA,AB 223 7,AW 223,ht]
theorem mF(l:List Own)(hn:l.length<=2^40):PX 228 [(l.map Own.V:V),.func 229 []] [.bool (Cp (λa b=>decide (a.party <b.party)) l)]:=by
 refine BS 228 ?_;obtain⟨R,U⟩:∃R,Cp (λa b=>decide (a.party <b.party)) l=R:=⟨_,rfl⟩;rw[U];have O:=Fl (λa b=>decide (a.party <b.party)) l;have Z:(if IntKind.i64.wrap ((l.length:Int)-1) <0 then 0 else IntKind.i64.wrap ((l.length:Int)-1))=((l.length-1:Nat):Int):=by rw[AS AE AE];split<;>omega
 simp only[As 228,AH,AJ,AY,AB 228 0,AB 228 1,Ad];simp[Z];refine Aw (l.length-1) (λk=>⟨[(0,(l.map Own.V:D)),(1,.v (.func 229 [])),(9,((l.length-1:Nat):D)),(10,(k:D))],[]⟩) (λk=>∀j <k,∀x y,l[j]?=some x->l[j+1]?=some y->(λa b=>decide (a.party <b.party)) x y=true) Ac Ac ?_;intro k hk hI;simp only[Zw,BG 228 0,AB 228 2];simp;by_cases W:k <l.length-1
 .obtain⟨x,hx⟩:∃x,l[k]?=some x:=⟨_,rW AE⟩;obtain⟨y,hy⟩:∃y,l[k+1]?=some y:=⟨_,rW AE⟩;have hw:IntKind.i64.wrap ((k:Int)+1)=((k+1:Nat):Int):=AS AE AE;have N:(0:Int)<=((k+1:Nat):Int):=AE;have a1:(k:Int) <((l.length-1:Nat):Int):=AE;have hp:=(mE x y).fsp;have G:(((k+1:Nat):Int)).toNat=k+1:=AE;generalize hb:(λa b=>decide (a.party <b.party)) x y=b at*;rw[CF,AD];simp only[Aa,AB 228 3,AB 228 4];simp[Own.V,hb]at hp;simp only[tN,uz]at hw N G;simp[hx,hy,Own.V,hw,N,G];refine⟨_,_,(hp []),?_⟩;cases b with
  |false=>
   have hf:R=false:=by
    rw[<-U];cases h:Cp (λa b=>decide (a.party <b.party)) l with
    |false=>rfl
    |true=>exact absurd ((O.1 h k x y hx hy).symm.trans hb) Ah
   simp[AA,AB 228 5,AW 228,hf]
  |true=>
   simp[AD,AB 228 6,hw];refine⟨W,λj hj a c J hc=>?_⟩;rcases sL j k with h|h
   .simpa using hI j h a c J hc
   .have:j=k:=AE;subst this;rw[hx]at J;rw[hy]at hc;cases J;cases hc;simpa using hb
 .have a2:k=l.length-1:=AE;have ht:R=true:=by rw[<-U];refine O.2 λj a c J hc=>hI j ?_ a c J hc;have:=(rZ.1 hc).1;omega
  rw[Bj,AN];simp[AA,AB 228 7,AW 228,ht]
end
def Kz(A B R:Row)(xs:List Int):List Row:=[A,wr xs,.cells [.R 1 0],B,R]
theorem Sj{x:Ivl}(hx:x.ok):∀n∈[x.ln,x.ld,x.hn,x.hd,Hp x.lo,Hp x.ho,Hp x.li,Hp x.hi],i64 n:=by
 intro n G;simp at G;rcases G with rfl|rfl|rfl|rfl|rfl|rfl|rfl|rfl
 .exact hx.1
 .exact hx.2.1
 .exact hx.2.2.1
 .exact hx.2.2.2
 all_goals exact Sz _
def Ivl.row(x:Ivl):Row:= .cells [.v (.int .i64 x.ln),.v (.int .i64 x.ld),.v (.int .i64 x.hn),.v (.int .i64 x.hd),.v (.bool x.lo),.v (.bool x.ho),.v (.bool x.li),.v (.bool x.hi)]
def oO(A B R:Row)(ins:List Ivl)(N:∀x∈ins,x.ok)(hl:ins.length<=2^40)(xs:List Int)(hb:xs.length+(ins.flatMap CM).length<=2^43)(W:D)(J:List Row):
  AX (.loop (lG 232 1)) (λe s=>e= .exit 2/\AK s.e 5= .R 2 0/\AK s.e 6=W/\s.h=Kz A B R (xs++ins.flatMap CM)++(J++ins.map Ivl.row))
   ⟨[(5,.R 2 0),(6,W),(33,(ins.map Ivl.V:D)),(34,(ins.length:D)),(35,((0:Int):D))],Kz A B R xs++J⟩:=by
 refine Ag ins.length (λk s=>s.e=[(5,.R 2 0),(6,W),(33,(ins.map Ivl.V:D)),(34,(ins.length:D)),(35,(k:D))]/\s.h=Kz A B R (xs++(ins.take k).flatMap CM)++(J++(ins.map Ivl.row).take k)) ⟨rfl,Ac⟩ ?_;rintro k ⟨se,sh⟩ hk ⟨he,hh⟩;simp only at he hh;subst he hh;simp only[Zw,BG 232 1,AB 232 11];simp;by_cases G:k <ins.length
 .obtain⟨x,hx⟩:∃x,ins[k]?=some x:=⟨_,rW G⟩;have U:ins[k]=x:=(rZ.1 hx).2;have ox:=N x (rY hx);have hw:=Bt k;rw[CF,AD];simp only[Aa,AB 232 12,AB 232 13];simp[hx,Ivl.V,AQ,Kz];refine⟨_,_,⟨rfl,rfl⟩,_,W3 x.lo,_,_,⟨rfl,rfl⟩,_,W3 x.ho,_,_,⟨rfl,rfl⟩,_,W3 x.li,_,_,⟨rfl,rfl⟩,_,W3 x.hi,?_⟩;simp;have Z:=D1 ins CM (k+1);rw[Bk G,U,re]at Z;have hp:=λh hr=>Z6 [x.ln,x.ld,x.hn,x.hd,Hp x.lo,Hp x.ho,Hp x.li,Hp x.hi] (Sj ox) Ac h 1 (xs++(ins.take k).flatMap CM) hr (by rw[re];omega);simp[AM]at hp;refine⟨_,_,hp _ rfl,?_⟩;have O:ins.take (k+1)=ins.take k++[x]:=by rw[tM G,U]
  have a1:(ins.map Ivl.row).take (k+1)=(ins.map Ivl.row).take k++[x.row]:=by rw[<-sQ,O,r9,sQ];rfl
  simp[AB 232 14,hw,G,O,-List.map_take];exact⟨rfl,a1.symm⟩
 .have:k=ins.length:=AE;subst this;rw[Bj,AN];simp;exact sN Ac
def jN(A B:Row)(e0:CC)(W:AK e0 5= .R 2 0)(g:F)(hg:g.ok1)(hk:g.kids.length<=2^40)(xs:List Int)(U:xs.length+(C9 g).length<=2^43)(J:List Row):
  Ky Tryz.prog BK 4 [.v g.V] (Kz A B (A5 Tryz.prog BK .ready e0 [18] (lG 232 0) (lG 232 1000)) xs++J) true (Kz A B (A5 Tryz.prog BK .ready e0 [18] (lG 232 0) (lG 232 1000)) (xs++C9 g)++(J++(.cells g.cells::g.ins.map Ivl.row))):=by
 obtain⟨op,n,ins,kids⟩:=g;obtain⟨o1,o2,o3,o4⟩:=hg;simp only[F.op,F.n,F.ins,F.kids]at*;refine CK (e0:=e0) (ps:=[18]) (asg:=(lG 232 0)) (body:=(lG 232 1000)) (by simp[Kz]) rfl ?_;simp only[F.cells,F.op,F.n,F.ins,F.kids,F.V_eq,C9]at*;simp only[re]at U;have Z:i64 (ins.length:Int):=by unfold i64;omega
 have kl:i64 (kids.length:Int):=by unfold i64;omega
 simp only[E5,BG 232 0,BG 232 1000,AJ,AY,AH,AB 232 6,AB 232 7,AB 232 8,AB 232 9,AB 232 10];simp[Kz,W,AQ];refine⟨_,_,(Zl op o1 _ 1 xs rfl AE),?_⟩;simp;refine⟨_,_,(Zl n o2 _ 1 (xs++Aj op) rfl Dd),?_⟩;simp;refine⟨_,_,(Zl ins.length Z _ 1 (xs++(Aj op++Aj n)) Ac Dd),?_⟩;simp;have O:=oO A B (A5 Tryz.prog BK .busy e0 [18] (lG 232 0) (lG 232 1000)) ins o3 o4 (xs++(Aj op++(Aj n++Aj ins.length))) (by simp only[re];omega) (.R (J.length+5) 0) (J++[.cells [op,n,(ins.map Ivl.V:D),(kids.map F.V:D)]]);simp[Kz]at O;refine Ap _ ?_ O;rintro e ⟨se,sh⟩ ⟨rfl,G,h6,N⟩;simp only at G h6 N;subst N;simp[AB 232 15,G,h6];refine⟨_,_,(Zl kids.length kl _ 1 (xs++(Aj op++(Aj n++(Aj ins.length++ins.flatMap CM)))) Ac (by simp only[re];omega)),?_⟩;simp[BH];rfl
def jY(A B:Row)(e0:CC)(W:AK e0 5= .R 2 0):∀(G:List F),(∀g∈G,g.ok1/\g.kids.length<=2^40)->∀xs:List Int,xs.length+(G.flatMap C9).length<=2^43->
  RunY Tryz.prog BK 4 (G.map F.V) (Kz A B (A5 Tryz.prog BK .ready e0 [18] (lG 232 0) (lG 232 1000)) xs) true (Kz A B (A5 Tryz.prog BK .ready e0 [18] (lG 232 0) (lG 232 1000)) (xs++G.flatMap C9)):=by
 intro G;induction G with
 |nil=>intro _ xs _;exact⟨rfl,Ac⟩
 |cons g G ih=>
  intro N xs U;rw[r7,re]at U;obtain⟨O,h2⟩:=N g Ac;refine⟨true,Kz A B (A5 Tryz.prog BK .ready e0 [18] (lG 232 0) (lG 232 1000)) (xs++C9 g),rfl,λJ=>⟨_,jN A B e0 W g O h2 xs AE J⟩,?_⟩;have:=ih (λx hx=>N x (by simp[hx])) (xs++C9 g) (by rw[re];omega);rw[rn]at this;exact this
def F.kids_le:∀f:F,∀g∈f.nodes,g.kids.length<=f.size:=by
 refine F.ind λop n ins kids J g hg=>?_;rw[F.size_eq];rw[F.nodes_eq]at hg;rcases rj.1 hg with rfl|hg
 .have:=F.kids_len kids;simp only[F.kids];omega
 .obtain⟨k,G,hg⟩:=sj.1 hg;have:=J k G g hg;have:=F.kid_size G;omega
def dm(f:F)(G:f.ok)(hb:(Bi f).length<=2^43):PX 232 [f.V] [AM .u8 (if A6 f=0 then Bi f else []),((A6 f:Int):V)]:=by
 refine BS 232 ?_;have U:=(cE f G).fsp;have N:=jB f;have a1:=G.2;have hr:=jY (.cells f.cells) (.cells f.cells) (FI [(5,.R 2 0),(17,.func 147 [.R 3 0])]) rfl f.nodes (λg hg=>⟨G.1 g hg,by have:=F.kids_le f g hg;omega⟩) [] (by simpa[Bi]using hb);obtain⟨J,W⟩:=XA f G 4 3 _ _ _ hr rfl;have e0:([]:List Int)++f.nodes.flatMap C9=Bi f:=rfl;rw[e0]at W;generalize Bi f=bs at*;generalize A6 f=Z at*;obtain⟨op,n,ins,kids⟩:=f;simp only[F.cells,F.op,F.n,F.ins,F.kids,F.V_eq]at*;simp only[Zw,As 232,AB 232 0,AB 232 1,AB 232 2,Ad];simp at U N;simp;refine⟨_,_,U _,?_⟩;by_cases O:Z=0
 .subst O;simp[AD,AB 232 4,AB 232 5,AQ];refine⟨_,_,N _,?_⟩;simp;refine DN 147 [.R 3 0] [] _ _ .ready rfl rfl W rfl ?_;simp[Cg,AB 232 16,Kz];refine⟨_,_,(Z5 _ 1 bs rfl AE),?_⟩;simp[AA,AW 232,AM]
 .simp[O,AA,AB 232 3,AW 232,AM]
section
def Br(h:List Row)(r lw:Nat)(x:List Int)(lf:Int)(a b:Row):List Row:=(h.set r (DO x)).set lw (.cells [.v (.int .i64 lf)])++[a,b]
section
variable {h:List Row} {r lw:Nat} (hr:r <h.length) (hl:lw <h.length) (hne:r≠lw) (x:List Int) (lf:Int) (a b:Row)
include hr hne
theorem Lg:(Br h r lw x lf a b)[r]?=some (DO x):=by unfold Br;rw[sI (by simpa using hr),sG (Ne.symm hne),sY (by simpa using hr)]
omit hr hne in
include hl in
theorem Lh:(Br h r lw x lf a b)[lw]?=some (.cells [lf]):=by unfold Br;rw[sI (by simpa using hl),sY (by simpa using hl)]
omit hr hne in
def Wn:(Br h r lw x lf a b)[h.length]?=some a:=by unfold Br;rw[sO Ac];simp
omit hr hne in
def Ie:(Br h r lw x lf a b)[h.length+1]?=some b:=by unfold Br;rw[sO Ac];simp
theorem JU(y:List Int):(Br h r lw x lf a b).set r (DO y)=Br h r lw y lf a b:=by unfold Br;rw[uC _ _ (by simpa using hr),List.set_comm _ _ (Ne.symm hne),tm]
omit hr hne in
include hl in
theorem Ug(m:Int):(Br h r lw x lf a b).set lw (.cells [m])=Br h r lw x m a b:=by unfold Br;rw[uC _ _ (by simpa using hl),tm]
omit hr hne in
def Uh(c:Row):(Br h r lw x lf a b).set h.length c=Br h r lw x lf c b:=by unfold Br;rw[uZ _ _ Ac];simp
omit hr hne in
def JV(c:Row):(Br h r lw x lf a b).set (h.length+1) c=Br h r lw x lf a c:=by unfold Br;rw[uZ _ _ Ac];simp
omit hr hne in
def KX:(Br h r lw x lf a b).length=h.length+2:=by simp[Br]
end
def rB(op n:Int)(ins:List Ivl)(kids:List F):Row:= .cells [.v (.int .i64 op),.v (.int .i64 n),.W 368 8 (ins.map Ivl.V),.W 84 4 (kids.map F.V)]
def bq(b:Bool):(Hp b==1)=b:=by cases b<;>rfl
variable {lw r:Nat} {h:List Row} {Q:AExit->St->Prop}
theorem iD(hr:r <h.length)(hl:lw <h.length)(hne:r≠lw)(X:Ivl)(N:X.ok)(G:List Int)(hb:G.length<=2^43)(lf:Int)(O:0<=lf)(a:Row)(op m:Int)(ins:List Ivl)(n:Nat)(hn:n<=32)(Z:ins.length <n)(W:Q .normal ⟨[(0,.R r 0),(1,.R lw 0),(4,.R h.length 0),(5,.R (h.length+1) 0),(6,(n:D)),(7,((ins.length+1:Int):D))],Br h r lw G lf a (rB op m (ins++[X]) [])⟩):
  AX (lG 320 0) Q ⟨[(0,.R r 0),(1,.R lw 0),(4,.R h.length 0),(5,.R (h.length+1) 0),(6,(n:D)),(7,(ins.length:D))],Br h r lw (CM X++G) lf a (rB op m ins [])⟩:=by
 have k1:(n:Int)<=32:=AE;simp only[Zw,BG 320 0,AB 320 5];simp[Z,k1,O,Lh hl,AD];have p1:=Z4 [X.ln,X.ld,X.hn,X.hd,Hp X.lo,Hp X.ho,Hp X.li,Hp X.hi] (by
  intro z U;simp only[rj,sK,or_false]at U;rcases U with rfl|rfl|rfl|rfl|rfl|rfl|rfl|rfl
  .exact N.1
  .exact N.2.1
  .exact N.2.2.1
  .exact N.2.2.2
  all_goals (unfold Hp;split<;>(unfold i64;omega))) (Br h r lw (CM X++G) lf a (rB op m ins [])) r G Dd (Lg hr hne _ _ _ _)
 simp only[AB 320 7];simp;refine⟨_,_,p1,?_⟩;rw[JU hr hne];simp only[AB 320 8];simp;have J:AV (ins.length+1) 40=true:=by simp[AV];omega
 have w1:IntKind.i64.wrap ((ins.length:Int)+1)=ins.length+1:=AS AE AE;simp only[Aa,AB 320 11];simp[Ie,rB,AQ,J,bq,JV];simp only[AB 320 6];simp[w1];simpa[rB,Ivl.V]using W
theorem bE(hr:r <h.length)(hl:lw <h.length)(hne:r≠lw)(J:List Int)(lf:Int)(O:0<=lf)(a:Row)(op m:Int):∀(G ins:List Ivl),(∀x∈G,x.ok)->(ins++G).length<=32->(G.flatMap CM++J).length<=2^43->
  AX (.loop (lG 320 0)) (λe s=>e= .exit 0/\s=⟨[(0,.R r 0),(1,.R lw 0),(4,.R h.length 0),(5,.R (h.length+1) 0),(6,.v (.int .i64 (ins++G).length)),(7,.v (.int .i64 (ins++G).length)),(35,(false:D))],Br h r lw J lf a (rB op m (ins++G) [])⟩)
   ⟨[(0,.R r 0),(1,.R lw 0),(4,.R h.length 0),(5,.R (h.length+1) 0),(6,.v (.int .i64 (ins++G).length)),(7,(ins.length:D))],Br h r lw (G.flatMap CM++J) lf a (rB op m ins [])⟩:=by
 intro G;induction G with
 |nil=>
  intro ins _ U N;refine Av ?_;simp only[Zw,BG 320 0,AB 320 5];simp[AN]
 |cons x G ih=>
  intro ins hx U N;have h2:=ih (ins++[x]) (λy Z=>hx y (by simp[Z])) (by simpa using U) (by simp at N ⊢;omega);simp only[rn,vV]at h2;refine Bu (s1:=⟨[(0,.R r 0),(1,.R lw 0),(4,.R h.length 0),(5,.R (h.length+1) 0),(6,.v (.int .i64 (ins++x::G).length)),(7,.v (.int .i64 (ins++[x]).length))],Br h r lw (G.flatMap CM++J) lf a (rB op m (ins++[x]) [])⟩) ?_ h2;have:=iD (Q:=λe s'=>match e with| .normal=>s'=⟨[(0,.R r 0),(1,.R lw 0),(4,.R h.length 0),(5,.R (h.length+1) 0),(6,.v (.int .i64 (ins++x::G).length)),(7,.v (.int .i64 (ins++[x]).length))],Br h r lw (G.flatMap CM++J) lf a (rB op m (ins++[x]) [])⟩|e=>e= .exit 0/\s'=⟨[(0,.R r 0),(1,.R lw 0),(4,.R h.length 0),(5,.R (h.length+1) 0),(6,.v (.int .i64 (ins++x::G).length)),(7,.v (.int .i64 (ins++x::G).length)),(35,(false:D))],Br h r lw J lf a (rB op m (ins++x::G) [])⟩)
   hr hl hne x (hx x Ac) (G.flatMap CM++J) (by simp at N ⊢;omega) lf O a op m ins (ins++x::G).length U Ac Ac
  simp at this ⊢;refine Ap _ (λe s W=>?_) this;cases e<;>exact W
end
section
def QK{n m:Nat}(h:n<=m):∀ds:List D,D.lts n ds=true->D.lts m ds=true
 |[],_=>rfl
 |d::ds,hd=>by simp only[D.lts,rX]at hd ⊢;exact⟨FG h d hd.1,QK h ds hd.2⟩
variable {m n:Nat}
def Jh(h:n<=m):∀row:Row,Row.low n row=true->Row.low m row=true:=by
 intro row G;cases row with
 |cells ds=>exact QK h ds G
 |map=>rfl
 |dead=>rfl
 |obj=>simp[Row.low]at G
variable {lw r:Nat} {h:List Row}
def TU{x:List Int}{lf:Int}{a b:Row}(O:Low h)(J:Row.low 0 a=true)(N:Row.low 0 b=true):Low (Br h r lw x lf a b):=by
 intro row G;rw[KX];unfold Br at G;rcases rp.1 G with hm|hm
 .rcases sn hm with hm|rfl
  .rcases sn hm with hm|rfl
   .exact Jh AE row (O row hm)
   .rfl
  .rfl
 .simp only[rj,sK,or_false]at hm;rcases hm with rfl|rfl
  .exact Jh AE _ J
  .exact Jh AE _ N
def WX(f:F):Prop:=∀(h:List Row)(r lw:Nat)(left:Int)(rest:List Int),r <h.length->lw <h.length->r≠lw->Low h->f.size<=left->left<=96->(Bi f++rest).length<=2^43->
 h[r]?=some (DO (Bi f++rest))->h[lw]?=some (.cells [.v (.int .i64 left)])->FX 320 [.R r 0,.R lw 0] h [.v f.V] ((h.set r (DO rest)).set lw (.cells [.v (.int .i64 (left-f.size))]))
variable {Q:AExit->St->Prop}
def iC(hr:r <h.length)(hl:lw <h.length)(O:r≠lw)(W:Low h)(X:F)(hX:WX X)(G:List Int)(hb:(Bi X++G).length<=2^43)(lf:Int)(a2:X.size<=lf)(Z:lf<=96)(a:Row)(ha:Row.low 0 a=true)(op m:Int)(ins:List Ivl)(kids:List F)(n:Nat)(hn:n<=96)(hk:kids.length <n)(hQ:Q .normal ⟨[(0,.R r 0),(1,.R lw 0),(4,.R h.length 0),(5,.R (h.length+1) 0),(9,(n:D)),(10,((kids.length+1:Int):D))],Br h r lw G (lf-X.size) a (rB op m ins (kids++[X]))⟩):
  AX (lG 320 1) Q ⟨[(0,.R r 0),(1,.R lw 0),(4,.R h.length 0),(5,.R (h.length+1) 0),(9,(n:D)),(10,(kids.length:D))],Br h r lw (Bi X++G) lf a (rB op m ins kids)⟩:=by
 have a6:=X.size_pos;have h0:0<=lf:=AE;have w1:IntKind.i64.wrap ((kids.length:Int)+1)=kids.length+1:=AS AE AE;have J:AV (kids.length+1) 64=true:=by simp[AV];omega
 have key:∀b,Row.low 0 b=true->FX 320 [.R r 0,.R lw 0] (Br h r lw (Bi X++G) lf a b) [.v X.V] (Br h r lw G (lf-X.size) a b):=by intro b a1;have:=hX (Br h r lw (Bi X++G) lf a b) r lw lf G (by rw[KX];omega) (by rw[KX];omega) O (TU W ha a1) a2 Z hb (Lg hr O _ _ _ _) (Lh hl _ _ _ _);rw[JU hr O,Ug hl]at this;exact this
 simp only[Zw,BG 320 1,AB 320 16];simp[hk,h0,Lh hl,AD];rw[Bf];refine Bc _ (λs hs=>⟨s,.inl rfl,hs⟩) ?_;simp only[AB 320 18];simp[Ie,rB,JV];obtain⟨cs,N,U⟩:∃cs,X.V= .agg cs/\cs.length=4:=by cases X;exact⟨_,F.V_eq _ _ _ _,rfl⟩
 have fin:Q .normal ⟨[(0,.R r 0),(1,.R lw 0),(4,.R h.length 0),(5,.R (h.length+1) 0),(9,(n:D)),(10,((kids.length+1:Int):D))],Br h r lw G (lf-X.size) a (.cells [op,m,.W 368 8 (ins.map Ivl.V),.W 84 4 (kids.map F.V++[.agg cs])])⟩:=by have:=hQ;simpa[rB,N]using this
 constructor
 .refine⟨_,_,key _ rfl,?_⟩;simp[N,U,J,Ie,JV];simp only[AB 320 17];simp[w1];exact fin
 .refine⟨_,_,key _ rfl,?_⟩;simp[N,U,J,Ie,JV];simp only[AB 320 17];simp[w1];exact fin
theorem bD(hr:r <h.length)(hl:lw <h.length)(a1:r≠lw)(O:Low h)(J:List Int)(a:Row)(ha:Row.low 0 a=true)(op m:Int)(ins:List Ivl):∀(G kids:List F)(lf:Int),(∀x∈G,WX x)->(kids++G).length<=96->
  (G.map F.size).sum<=lf->lf<=96->(G.flatMap Bi++J).length<=2^43->
  AX (.loop (lG 320 1)) (λe s=>e= .exit 2/\s=⟨[(0,.R r 0),(1,.R lw 0),(4,.R h.length 0),(5,.R (h.length+1) 0),(9,.v (.int .i64 (kids++G).length)),(10,.v (.int .i64 (kids++G).length)),(110,(false:D))],Br h r lw J (lf-(G.map F.size).sum) a (rB op m ins (kids++G))⟩)
   ⟨[(0,.R r 0),(1,.R lw 0),(4,.R h.length 0),(5,.R (h.length+1) 0),(9,.v (.int .i64 (kids++G).length)),(10,(kids.length:D))],Br h r lw (G.flatMap Bi++J) lf a (rB op m ins kids)⟩:=by
 intro G;induction G with
 |nil=>
  intro kids lf _ Z hs N U;refine Av ?_;simp only[Zw,BG 320 1,AB 320 16];simp[AN]
 |cons x G ih=>
  intro kids lf hx Z hs N U;simp only[rq,tV]at hs;have h2:=ih (kids++[x]) (lf-x.size) (λy hy=>hx y (by simp[hy])) (by simpa using Z) AE AE (by simp at U ⊢;omega);simp only[rn,vV]at h2;have e1:lf-x.size-((G.map F.size).sum:Nat)=lf-(((x::G).map F.size).sum:Nat):=by simp;omega
  rw[e1]at h2;refine Bu (s1:=⟨[(0,.R r 0),(1,.R lw 0),(4,.R h.length 0),(5,.R (h.length+1) 0),(9,.v (.int .i64 (kids++x::G).length)),(10,.v (.int .i64 (kids++[x]).length))],Br h r lw (G.flatMap Bi++J) (lf-x.size) a (rB op m ins (kids++[x]))⟩) ?_ h2;have:=iC (Q:=λe s'=>match e with| .normal=>s'=⟨[(0,.R r 0),(1,.R lw 0),(4,.R h.length 0),(5,.R (h.length+1) 0),(9,.v (.int .i64 (kids++x::G).length)),(10,.v (.int .i64 (kids++[x]).length))],Br h r lw (G.flatMap Bi++J) (lf-x.size) a (rB op m ins (kids++[x]))⟩|e=>False)
   hr hl a1 O x (hx x Ac) (G.flatMap Bi++J) (by simp at U ⊢;omega) lf AE N a ha op m ins kids (kids++x::G).length Z Ac Ac
  simp at this ⊢;refine Ap _ (λe s W=>?_) this;cases e with
  |normal=>exact W
  |ret=>exact W.elim
  |exit=>exact W.elim
def F.rd(f:F):Prop:=∀g∈f.nodes,g.ok1/\g.ins.length<=32
def F.rd_kid{op n:Int}{ins:List Ivl}{kids:List F}(h:(F.mk op n ins kids).rd){k:F}(G:k∈kids):k.rd:=λg hg=>h g (by rw[F.nodes_eq];exact th _ (sj.2 ⟨k,G,hg⟩))
def Xk(op n:Int)(ins:List Ivl)(kids:List F):Bi (.mk op n ins kids)=C9 (.mk op n ins kids)++kids.flatMap Bi:=by unfold Bi;rw[F.nodes_eq,r7,List.flatMap_assoc]
theorem Ue{x:Row}(G:h[r]?=some x):h.set r x=h:=by
 apply sl;intro i;rw[sr];split
 .rename_i hi;subst hi;have J:=(rZ.1 G).1;rw[if_pos J,G]
 .rfl
def Hx(h:List Row)(r lw:Nat)(x:List Int)(lf:Int)(a:Row):List Row:=(h.set r (DO x)).set lw (.cells [.v (.int .i64 lf)])++[a]
def SK(J:r <h.length)(G:r≠lw)(x:List Int)(lf:Int)(a:Row):(Hx h r lw x lf a)[r]?=some (DO x):=by unfold Hx;rw[sI (by simpa using J),sG (Ne.symm G),sY (by simpa using J)]
def Ps(J:r <h.length)(G:r≠lw)(x y:List Int)(lf:Int)(a:Row):(Hx h r lw x lf a).set r (DO y)=Hx h r lw y lf a:=by unfold Hx;rw[uC _ _ (by simpa using J),List.set_comm _ _ (Ne.symm G),tm]
def TJ(x:List Int)(lf:Int)(a:Row):(Hx h r lw x lf a).length=h.length+1:=by simp[Hx]
def TK(x:List Int)(lf:Int)(a b:Row):Hx h r lw x lf a++[b]=Br h r lw x lf a b:=by simp[Hx,Br]
def Uf(J:r≠lw)(G:lw <h.length){x:List Int}(N:h[r]?=some (DO x))(lf:Int)(a:Row):(h++[a]).set lw (.cells [lf])=Hx h r lw x lf a:=by unfold Hx;rw[uC _ _ G,Ue N]
theorem Up:∀f:F,f.rd->WX f:=by
 refine F.ind λop n ins kids ih a2=>?_;intro h r lw left J N hl G U b2 a8 hb a1 a7;obtain⟨⟨o1,o2,o3,o4⟩,O⟩:=a2 (.mk op n ins kids) (by rw[F.nodes_eq];simp);simp only[F.op,F.n,F.ins]at o1 o2 o3 O;rw[Xk]at hb a1;have b1:=F.size_eq op n ins kids;have b0:=F.kids_len kids;have hA:Row.low 0 (.cells [((0:Int):D),((0:Int):D),.W 368 8 [],.W 84 4 []])=true:=rfl;have g1:=AU [.cells [((0:Int):D),((0:Int):D),.W 368 8 [],.W 84 4 []]] a7;have w1:IntKind.i64.wrap (left-1)=left-1:=AS AE AE;have W:=Uf G hl a1 (left-1) (.cells [((0:Int):D),((0:Int):D),.W 368 8 [],.W 84 4 []]);generalize Z:Row.cells [((0:Int):D),((0:Int):D),.W 368 8 [],.W 84 4 []]=A at hA g1 W;have hE:C9 (.mk op n ins kids)++kids.flatMap Bi++J=Aj op++(Aj n++(Aj ins.length++(ins.flatMap CM++(Aj kids.length++(kids.flatMap Bi++J))))):=by simp[C9,F.op,F.n,F.ins,F.kids]
 rw[hE]at W hb;refine At (D6 320) rfl Ac (by
  intro row a6;simp only[so];rcases sn a6 with W|rfl
  .rcases sn W with W|rfl
   .exact U row W
   .rfl
  .rfl) (by simp[D.lt]) ?_
 simp only[Zw,As 320,AB 320 0,AB 320 1,AZ];simp[Z,g1,w1,AQ,W];simp only[AB 320 2];simp;refine⟨_,_,(M9 op o1 _ r _ (SK N G _ _ _)),?_⟩;rw[Ps N G];simp;refine⟨_,_,(M9 n o2 _ r _ (SK N G _ _ _)),?_⟩;rw[Ps N G];have hB:Row.cells [(op:D),(n:D),.W 368 8 [],.W 84 4 []]=rB op n [] []:=rfl;simp[AQ,TJ,TK];simp only[AB 320 3];simp;refine⟨_,_,(M9 ins.length (by unfold i64;omega) _ r _ (Lg N G _ _ _ _)),?_⟩;rw[JU N G];simp only[AB 320 4];simp;have hI:=bE N hl G (Aj kids.length++(kids.flatMap Bi++J)) (left-1) AE A op n ins [] o3 (by simpa using O) (by simp at hb ⊢;omega);simp at hI;refine Ew hI ?_;simp only[AB 320 12];simp;refine⟨_,_,(M9 kids.length (by unfold i64;omega) _ r _ (Lg N G _ _ _ _)),?_⟩;rw[JU N G];have k1:¬(left-1 <(kids.length:Int)):=AE;have k2:¬((kids.length:Int) <0):=AE;simp only[AB 320 13];simp[Ie,Lh hl,rB,k1,k2,AD];simp only[AB 320 15];simp;have hK:=bD N hl G U J A hA op n ins kids [] (left-1) (λx hx=>ih x hx (F.rd_kid a2 hx)) Dd AE AE (by simp at hb ⊢;omega);simp[rB]at hK;refine Ew hK ?_;subst Z;simp only[AB 320 19];simp[Wn,Ie,Uh,AQ,AW 320,F.V_eq,AA,D.one?,D.vs?,D.v?];rw[show left-1-((kids.map F.size).sum:Nat)=left-((F.mk op n ins kids).size:Nat) by omega];exact⟨_,rfl⟩
end
def isB(l:List Int):Prop:=∀x∈l,0<=x/\x <256
def isB.app{a b:List Int}(G:isB a)(J:isB b):isB (a++b):=λx hx=>(rp.1 hx).elim (G x) (J x)
def isB.flat{α:Type}{f:α->List Int}{l:List α}(h:∀x∈l,isB (f x)):isB (l.flatMap f):=λy G=>by obtain⟨x,hx,G⟩:=sj.1 G;exact h x hx y G
def isB.uvarF:∀(k:Nat)(n:Int),0<=n->n <128^(k+1)->isB (Go.Va.Dq k n)
 |0,n,h0,h1=>by have e:(128:Int)^(0+1)=128:=Ah;intro x hx;simp[Go.Va.Dq]at hx;subst hx;omega
 |k+1,n,h0,h1=>by
  simp only[Go.Va.Dq];split
  .intro x hx;simp at hx;omega
  .intro x hx;rcases rj.1 hx with rfl|hx
   .omega
   .exact isB.uvarF k (n/128) AE (vF Ah (by rw[<-sb];exact h1)) x hx
def isB.uvar{n:Int}(G:0<=n)(J:n <18446744073709551616):isB (Go.Va.Fk n):=by have e:(128:Int)^(9+1)=1180591620717411303424:=Ah;exact isB.uvarF 9 n G AE
def isB.encI{n:Int}(h:i64 n):isB (Go.Va.Aj n):=isB.uvar (Hr h).1 (Hr h).2
def isB.encInts{l:List Int}(h:∀n∈l,i64 n)(J:l.length<=2^60):isB (Go.Va.BI l):=(isB.uvar AE AE).app (isB.flat λn G=>isB.encI (h n G))
def isB.encRaw{l:List Int}(h:isB l)(G:l.length<=2^60):isB (Go.Va.BR l):=(isB.uvar AE AE).app h
def isB.encF{f:F}(G:f.ok):isB (Go.Va.Bi f):=by refine isB.flat λg hg=>?_;obtain⟨J,h2,N,O⟩:=G.1 g hg;have U:=F.kids_le f g hg;have W:=G.2;exact(isB.encI J).app ((isB.encI h2).app ((isB.encI (by unfold i64;omega)).app ((isB.flat λx hx=>isB.encInts (Sj (N x hx)) Ac).app (isB.encI (by unfold i64;omega)))))
def isB.encClms{l:List Clm}(J:∀c∈l,c.ok)(U:l.length<=2^40)(G:(Go.Va.BM l).length<=2^60):isB (Go.Va.BM l):=by refine(isB.encI (by unfold i64;omega)).app (isB.flat λc hc=>?_);obtain⟨N,W,O⟩:=J c hc;unfold Go.Va.BM at G;rw[re]at G;have:=Jy (f:=Bb) hc;simp only[Bb,re,Go.Va.BR]at this;exact(isB.encInts N AE).app (isB.encRaw (isB.encF O) AE)
def HA{e:Nat->Int}:∀(m k:Nat),GO e k m=0->∀j,k<=j->j <k+m->e j=0
 |0,k,_,j,h1,h2=>AE
 |m+1,k,h,j,h1,h2=>by
  simp only[GO]at h;split at h
  .rename_i G;exact absurd h G
  .rename_i G;by_cases J:j=k
   .subst J;simpa using G
   .exact HA m (k+1) h j AE AE
def N8{l:List Clm}(h:CB l=0):∀c∈l,A6 c.body=0:=by
 intro c hc;unfold CB at h;split at h
 .cases h
 .obtain⟨k,G,hx⟩:=List.getElem_of_mem hc;have:=HA _ _ h k AE AE;unfold J7 at this;rw[rW G,hx]at this;simp only[Mo]at this;split at this
  .cases this
  .split at this
   .exact this
   .cases this
def eU(l:List Clm)(hl:∀c∈l,c.ok)(hn:l.length<=2^40)(hb:(BM l).length<=2^39):PX 130 [(l.map Clm.V:V)] [AM .u8 (if CB l=0 then BM l else []),((CB l:Int):V)]:=by
 refine BS 130 ?_;have p1:=(Zv l hl hn).fsp;have hz:CB l=0->∀c∈l,A6 c.body=0:=N8;have il:i64 (l.length:Int):=by unfold i64;omega
 generalize CB l=e at*;unfold BM at hb ⊢;rw[re]at hb;simp only[Zw,As 130,AB 130 0,AB 130 1,AB 130 2,Ad];simp;refine⟨_,_,p1 _,?_⟩;by_cases h:e=0
 .subst h;have hz:=hz rfl;simp[AD,AB 130 4,AB 130 5];refine⟨_,_,(Zl l.length il _ 0 [] rfl Ac),?_⟩;simp[AB 130 6];refine Ag l.length (λk s=>s.e=[(5,.R 0 0),(21,(l.map Clm.V:D)),(22,(l.length:D)),(23,(k:D))]/\∃J,s.h=wr (Aj l.length++(l.take k).flatMap Bb)::J) ⟨rfl,[],Ac⟩ ?_;rintro k ⟨se,sh⟩ hk ⟨he,J,hh⟩;simp only at he hh;subst he hh;simp only[Zw,BG 130 0,AB 130 7];simp;by_cases O:k <l.length
  .obtain⟨x,hx⟩:∃x,l[k]?=some x:=⟨_,rW O⟩;have Z:=rY hx;have W:l[k]=x:=(rZ.1 hx).2;obtain⟨o1,o2,o3⟩:=hl x Z;have hf:=hz x Z;have hw:=Bt k;have a1:=D1 l Bb (k+1);rw[Bk O,W,re]at a1;have e:(l.take (k+1)).flatMap Bb=(l.take k).flatMap Bb++Bb x:=by rw[Bk O,W]
   have ec:(Bb x).length=(BI x.refs).length+(BR (Bi x.body)).length:=by simp[Bb]
   have er:(BR (Bi x.body)).length=(Fk (Bi x.body).length).length+(Bi x.body).length:=by simp[BR]
   have p2:=(dm x.body o3 AE).fsp;have G:=λh hr=>Z6 x.refs o1 o2 h 0 (Aj l.length++(l.take k).flatMap Bb) hr (by rw[re];omega);have N:isB (Bi x.body):=isB.encF o3;have U:=λh hr=>pe (Bi x.body) N AE h 0 (Aj l.length++((l.take k).flatMap Bb++BI x.refs)) hr (by simp only[re];omega);rw[F.V_flds,hf]at p2;have e2:Bb x=BI x.refs++BR (Bi x.body):=rfl;generalize BR (Bi x.body)=B at*;generalize BI x.refs=A at*;generalize Bi x.body=C at*;rw[CF,AD];simp only[AB 130 8,AB 130 9,AB 130 10];simp[AM]at p2 U G;simp[hx,Clm.V,AM,AQ];refine⟨_,_,p2 _,?_⟩;simp[AD,AB 130 12];refine⟨_,_,(G _ rfl),?_⟩;simp[AB 130 13];refine⟨_,_,(U _ rfl),?_⟩;simp[AB 130 14,hw,O,e,e2]
  .have:k=l.length:=AE;subst this;rw[Bj,AN];simp[AB 130 15];refine⟨_,_,(Z5 _ 0 (Aj l.length++l.flatMap Bb) rfl (by rw[re];omega)),?_⟩;simp[AA,AW 130,AM]
 .simp[h,AA,AB 130 3,AW 130,AM]
def Zx(n:Int):PX 131 [n] [(decide (0<=n/\n<=4095):V)]:=by refine BS 131 ?_;by_cases G:0<=n<;>by_cases h2:n<=4095<;>simp[As 131,awp,AB 131 0,AB 131 1,AW 131,Ad,G,h2]
def CX(k:Int)(v:List Int):Int:=JO [112,97,105,114] [k,v.length,IntKind.i64.wrap (Jr [118,97,108,117,101] v)]
def eT(k:Int)(v:List Int)(W:∀x∈v,0<=x/\x <256)(U:v.length<=2^39):PX 133 [k,AM .u8 v] [.int .u64 (CX k v)]:=by
 refine BS 133 ?_;have J:=(mB ⟨#[118,97,108,117,101]⟩ v W Ah U).fsp;have G:=(jA ⟨#[112,97,105,114]⟩ [k,v.length,IntKind.i64.wrap (Jr [118,97,108,117,101] v)] Ah Ac).fsp;have N:An ⟨#[118,97,108,117,101]⟩=[118,97,108,117,101]:=by simp[An]
 have e2:An ⟨#[112,97,105,114]⟩=[112,97,105,114]:=by simp[An]
 rw[N]at J;rw[e2]at G;have O:JO [112,97,105,114] [k,v.length,IntKind.i64.wrap (Jr [118,97,108,117,101] v)]=CX k v:=rfl;rw[O]at G;simp[AM]at J G;simp only[As 133,AH,AJ,AB 133 0,AB 133 1,Ad];simp[AM];refine⟨_,_,J _,?_⟩;simp;refine⟨_,_,G _,?_⟩;simp[AA,AW 133]
def nS(k:Int)(v:List Int)(W:∀x∈v,0<=x/\x <256)(U:v.length<=2^39):PX 136 [.agg [(k:V),AM .u8 v]] [.int .u64 (CX k v)]:=by
 refine BS 136 ?_;have J:=l0 ⟨#[118,97,108,117,101]⟩ v W Ah U;have G:=dA ⟨#[112,97,105,114]⟩ [k,v.length,IntKind.i64.wrap (Jr [118,97,108,117,101] v)] Ah Ac;have N:An ⟨#[118,97,108,117,101]⟩=[118,97,108,117,101]:=by simp[An]
 have e2:An ⟨#[112,97,105,114]⟩=[112,97,105,114]:=by simp[An]
 rw[N]at J;rw[e2]at G;have O:JO [112,97,105,114] [k,v.length,IntKind.i64.wrap (Jr [118,97,108,117,101] v)]=CX k v:=rfl;rw[O]at G;simp[AM]at J G;simp only[As 136,AH,AJ,Aa,AB 136 0,AB 136 1,Ad];simp[AM];refine⟨_,_,⟨rfl,rfl⟩,_,J,?_⟩;simp;refine⟨_,_,⟨rfl,rfl⟩,_,G,?_⟩;simp[AA,AW 136]
def Ea(a:Option Int):V:= .agg [.int .u64 (a.getD 0),.bool a.isSome]
def eD(a b:Option Int):PX 182 [Ea a,Ea b] [Ea (Eg a b)]:=by
 refine BS 182 ?_;have e2:An ⟨#[98,108,111,99,107]⟩=[98,108,111,99,107]:=by simp[An]
 have G:=(jA ⟨#[98,108,111,99,107]⟩ [IntKind.i64.wrap (a.getD 0),IntKind.i64.wrap (b.getD 0)] Ah Ac).fsp;rw[e2]at G;simp[AM]at G;simp only[As 182,AH,AJ,AO,AB 182 0,AB 182 1,AB 182 2,AB 182 3,Ad];cases a with
 |none=>
  cases b with
  |none=>simp[Ea,AA,AW 182,AQ,Eg]
  |some b=>
   simp[Ea,AD,AQ,Eg]at G ⊢;refine⟨_,_,G _,?_⟩;simp[AA,AW 182]
 |some a=>
  simp[Ea,AD,AQ,Eg]at G ⊢;refine⟨_,_,G _,?_⟩;simp[AA,AW 182]
def Jk(ps:List (Int×List Int))(k:Int):Option Int:=(ps.find? λp=>p.1==k).map λp=>CX p.1 p.2
open Go.Proofs
def BV(l n:Int):V:= .agg [.int .i64 l,.int .i64 n]
def dl(h:List Row)(r q:Nat)(N:HM)(l n:Int)(d:D)(hr:h[r]?=some (.cells [d,.mr q]))(hq:h[q]?=some N.row)(Z:∀row∈h,Row.low h.length row=true):
  FX 233 [.R r 0,.v (BV l n)] h [.v (Ea (N.get (l,n)))] h:=by
 refine At (D6 233) rfl (ri _) Z (by simp[D.lt]) ?_;have W:=Je l n N.E;have G:=Gf (l,n) N.E;have U:=AU [.cells [l,n],.cells [.v (.int .u64 0),false]] hr;have O:=AU [.cells [l,n],.cells [.v (.int .u64 0),false]] hq;simp only[As 233,AH,AJ,Aa,AB 233 0,AB 233 1,AZ];simp[BV]
 try simp at U
 try simp at O
 simp[U,O,HM.row,W,Be,V.eqL,V.eq1];cases hi:N.E.findIdx? (λx=>x.fst==(l,n))with
 |none=>
  rw[hi]at G;simp[HM.get,G,Da,AA,AB 233 2,AW 233,AQ,Ea,D.one?,D.vs?,D.v?]
 |some i=>
  rw[hi]at G;have J:=(tQ.1 hi).1;rw[sW,rW J]at G;simp[HM.get,G,J,Da,AA,AB 233 2,AW 233,JG,AQ,Ea,D.one?,D.vs?,D.v?]
def qe(h:List Row)(r q:Nat)(N:HM)(d:D)(W:h[r]?=some (.cells [d,.mr q]))(U:h[q]?=some N.row):
  FX 57 [.R r 0] h [.v (.int .u64 ((N.get (12,0)).getD 0))] h:=by
 refine EH 57 ?_;have O:=Je 12 0 N.E;have G:=Gf (12,0) N.E;simp only[As 57,AH,AJ,Aa,AB 57 0,AB 57 1,AZ];simp[W,U,HM.row,O,Be,V.eqL,V.eq1];cases hi:N.E.findIdx? (λx=>x.fst==(12,0))with
 |none=>
  rw[hi]at G;simp[HM.get,G,Da,AA,AW 57]
 |some i=>
  rw[hi]at G;have J:=(tQ.1 hi).1;rw[sW,rW J]at G;simp[HM.get,G,J,Da,AA,AW 57,JG]
def W7(l n:Int)(U:0 <l/\l<=12)(W:0<=n/\n<=4096):PX 181 [BV l n] [BV (l-1) (2*n),BV (l-1) (2*n+1)]:=by refine BS 181 ?_;have J:IntKind.i64.wrap (l-1)=l-1:=AS AE AE;have N:IntKind.i64.wrap (2*n)=2*n:=AS AE AE;have O:IntKind.i64.wrap (2*n+1)=2*n+1:=AS AE AE;simp only[As 181,AH,AJ,AB 181 0,Ad];simp[BV];rw[Bf];refine Bc _ (λs G=>⟨s,.inl rfl,G⟩) ?_;simp only[AB 181 1];simp[AQ,J,N,O,AA,AW 181,D.vs?,D.v?]
section
variable {row:Row} {m n:Nat}
theorem Row.low_mono(h:n<=m)(G:Row.low n row=true):Row.low m row=true:=by
 cases row with
 |cells ds=>
  simp only[Row.low]at G ⊢;exact Fb λd hd=>by obtain⟨i,hi⟩:=uQ hd;exact FG h d (GC G hi)
 |_=>exact G
def HM.row_new{m:HM}{k:Int×Int}(v:Int)(h:(m.E.findIdx? λx=>x.1==k)=none):(m.set k v).row= .map (m.E.map JG++[JG (k,v)]) (m.st++[m.ck]) (m.ck+1):=by
 have G:m.get k=none:=by rw[HM.get,Gf,h];rfl
 have h2:=Mb k v m.E;rw[h]at h2;simp[HM.set,G,HM.row,h2]
variable {i:Nat}
def HM.row_old{m:HM}{k:Int×Int}(v:Int)(h:(m.E.findIdx? λx=>x.1==k)=some i):(m.set k v).row= .map ((m.E.map JG).set i (JG (k,v))) m.st m.ck:=by
 have G:=(tQ.1 h).1;have J:m.get k=some (m.E[i]).2:=by rw[HM.get,Gf,h];simp[G]
 have h2:=Mb k v m.E;rw[h]at h2;simp[HM.set,J,HM.row,h2,List.map_set]
structure PFm (h:List Row) (q:Nat) (m:HM) (c x:Nat) (w j n:Int) (H:List Row):Prop where
 pre:H.take h.length=h.set q m.row
 hc:H[c]?=some (.cells [.v (.int .u64 w),.v (.bool true)])
 hx:H[x]?=some (.cells [.v (.int .i64 j),.v (.int .i64 n)])
 lc:h.length<=c
 lx:h.length<=x
 ne:c≠x
 low:∀row∈H.drop h.length,Row.low 0 row=true
variable {r:Nat}
section
variable {h:List Row} {q:Nat} {m:HM} {c x:Nat} {w j n:Int} {H:List Row}
def PFm.len(G:PFm h q m c x w j n H):h.length<=H.length:=Nat.le_of_lt (Nat.lt_of_le_of_lt G.lc (Cs G.hc))
def PFm.get(G:PFm h q m c x w j n H)(hi:i <h.length):H[i]?=(h.set q m.row)[i]?:=by rw[<-G.pre,sP,if_pos hi]
def PFm.gq(J:PFm h q m c x w j n H){y:Row}(G:h[q]?=some y):H[q]?=some m.row:=by rw[J.get (Cs G),CY G]
def PFm.gr(J:PFm h q m c x w j n H){y:Row}(G:h[r]?=some y)(N:r≠q):H[r]?=some y:=by rw[J.get (Cs G),sG (Ne.symm N)];exact G
def PFm.app(G:PFm h q m c x w j n H)(N:Row.low 0 row=true):PFm h q m c x w j n (H++[row]) where
 pre:=by rw[tg G.len];exact G.pre
 hc:=AU _ G.hc
 hx:=AU _ G.hx
 lc:=G.lc
 lx:=G.lx
 ne:=G.ne
 low:=by
  rw[List.drop_append_of_le_length G.len];intro row J;rcases rp.1 J with J|J
  .exact G.low row J
  .simp at J;subst J;exact N
def LJ{L c:Nat}{y:Row}(h:L<=c):(H.set c y).drop L=(H.drop L).set (c-L) y:=by rw[List.drop_set,Bj]
theorem PFm.setc(G:PFm h q m c x w j n H)(N:Int):PFm h q m c x N j n (H.set c (.cells [.v (.int .u64 N),true])) where
 pre:=by rw[List.take_set,List.set_eq_of_length_le (by simp;have:=G.lc;omega)];exact G.pre
 hc:=CY G.hc
 hx:=by rw[sG G.ne];exact G.hx
 lc:=G.lc
 lx:=G.lx
 ne:=G.ne
 low:=by
  rw[LJ G.lc];intro row J;rcases sn J with J|rfl
  .exact G.low row J
  .rfl
theorem PFm.setx(G:PFm h q m c x w j n H)(N O:Int):PFm h q m c x w N O (H.set x (.cells [N,O])) where
 pre:=by rw[List.take_set,List.set_eq_of_length_le (by simp;have:=G.lx;omega)];exact G.pre
 hc:=by rw[sG (Ne.symm G.ne)];exact G.hc
 hx:=CY G.hx
 lc:=G.lc
 lx:=G.lx
 ne:=G.ne
 low:=by
  rw[LJ G.lx];intro row J;rcases sn J with J|rfl
  .exact G.low row J
  .rfl
theorem PFm.newx(G:PFm h q m c x w j n H)(N O:Int):PFm h q m c H.length w N O (H++[.cells [N,O]]):=
 have J:=G.app (row:= .cells [N,O]) rfl
 {pre:=J.pre,hc:=J.hc,hx:=Ii _ _,lc:=G.lc,lx:=G.len,ne:=Nat.ne_of_lt (Cs G.hc),low:=J.low}
def PFm.setq(G:PFm h q m c x w j n H)(N:q <h.length)(J:HM):PFm h q J c x w j n (H.set q J.row) where
 pre:=by rw[List.take_set,G.pre,tm]
 hc:=by rw[sG (by have:=G.lc;omega)];exact G.hc
 hx:=by rw[sG (by have:=G.lx;omega)];exact G.hx
 lc:=G.lc
 lx:=G.lx
 ne:=G.ne
 low:=by rw[List.drop_set_of_lt N];exact G.low
def PFm.all(J:PFm h q m c x w j n H)(N:∀row∈h,Row.low h.length row=true):∀row∈H,Row.low H.length row=true:=by
 intro row G;rw[<-sa h.length H]at G;rcases rp.1 G with G|G
 .rw[J.pre]at G;rcases sn G with G|rfl
  .exact Row.low_mono J.len (N row G)
  .rfl
 .exact Row.low_mono (tB _) (J.low row G)
end
variable {H:List Row} {j:Nat}
def gS(h:List Row)(r q:Nat)(d:D)(y:Row)(hr:h[r]?=some (.cells [d,.mr q]))(hq:h[q]?=some y)(hn:r≠q)(hl:∀row∈h,Row.low h.length row=true){m:HM}{c x:Nat}{w n v:Int}(N:PFm h q m c x w j n H)(hj:j<=12)(Z:0<=n)(a1:n<=4096)(hv:(j=0/\w=v)\/(0 <j/\Eg (m.get ((j:Int)-1,2*n)) (m.get ((j:Int)-1,2*n+1))=some v))(Q:AExit->St->Prop)(hQ:∀J H',AK J 0= .R r 0->AK J 5= .R c 0->AK J 6= .R x 0->PFm h q m c x v j n H'->Q .normal ⟨J,H'⟩):
  AX (.seq (.reg (oG 132 3) [0,5,6,20]) (.cond (.t 20 false) (.seq (.reg (oG 132 4) [0,5,6,7,8]) (.regA (oG 132 5) [0,5,6] [[],[],[0,1],[],[],[0,1,2,3,4],[0,1,2,3,4,5],[0,1,2,3,4,5,6]] (.take 0 (.take 1 (.take 3 (.take 4 (.take 2 (.take 5 (.take 6 (.take 7 .done)))))))))) .skip)) Q
   ⟨[(0,.R r 0),(5,.R c 0),(6,.R x 0)],H⟩:=by
 simp only[AH,AJ,AO,AB 132 3];simp[N.hx];rcases hv with ⟨rfl,rfl⟩|⟨h0,hv⟩
 .simp[AD];exact hQ _ H rfl rfl rfl N
 .rw[if_pos h0];have p1:=(W7 j n ⟨AE,AE⟩ ⟨Z,a1⟩).fsp;simp[BV]at p1;simp only[AB 132 4];simp[N.hx];refine⟨_,_,p1 _,?_⟩;simp[AQ];have G:=(N.app (row:= .cells [((j-1:Int):D),((2*n:Int):D)]) rfl).app (row:= .cells [((j-1:Int):D),((2*n+1:Int):D)]) rfl;simp only[rn,sw,uU]at G;have g1:=dl _ r q m (j-1) (2*n) d (G.gr hr hn) (G.gq hq) (G.all hl);have g2:=dl _ r q m (j-1) (2*n+1) d (G.gr hr hn) (G.gq hq) (G.all hl);have O:=eD (m.get (j-1,2*n)) (m.get (j-1,2*n+1));rw[hv]at O;have e3:Ea (some v)= .agg [.int .u64 v,(true:V)]:=rfl;rw[e3]at O;have U:=G.setc v;have W:=G.hc;generalize Ea (m.get (j-1,2*n))=s1 at*;generalize Ea (m.get (j-1,2*n+1))=s2 at*;simp only[BV]at g1 g2;rw[Bf];refine Bc _ (λs hs=>⟨s,.inl rfl,hs⟩) ?_;simp only[AB 132 5];simp;refine⟨_,_,g1,⟨[],Ac⟩,?_⟩;simp;refine⟨_,_,g2,⟨[],Ac⟩,?_⟩;simp;refine⟨_,_,⟨rfl,rfl⟩,_,O,?_⟩;simp[W,AQ];exact hQ _ _ rfl rfl rfl U
variable {e:CC}
theorem gQ(h:List Row)(r q:Nat)(d:D)(y:Row)(hr:h[r]?=some (.cells [d,.mr q]))(hq:h[q]?=some y)(hn:r≠q){m:HM}{c x:Nat}{n v:Int}(f0:AK e 0= .R r 0)(f5:AK e 5= .R c 0)(f6:AK e 6= .R x 0)(N:PFm h q m c x v j n H)(Q:AExit->St->Prop)(O:j=12->n=0->∀e2 J,PFm h q (m.set ((j:Int),n) v) c x v j n J->Q .ret ⟨e2,J⟩)(W:¬((j:Int)=12/\n=0)->∀e2 J,AK e2 5= .R c 0->AK e2 6= .R x 0->AK e2 0= .R r 0->PFm h q (m.set ((j:Int),n) v) c x v j n J->Q .normal ⟨e2,J⟩):
  AX (.seq (.seq (.reg (oG 132 6) [0,5,6,34]) (.cond (.t 34 false) (.regD (oG 132 7) [0,5,6] [[],[0],[0,1],[0,1,2],[],[],[5],[0,1,2,3,4,5,6]]) (.regD (oG 132 8) [0,5,6] [[],[0],[0,1],[0,1,2],[],[0,1,2,3,4]])))
   (.seq (.reg (oG 132 9) [0,5,6,49]) (.cond (.t 49 false) .ret .skip))) Q ⟨e,H⟩:=by
 have Z:=Je j n m.E;have a1:H[q]?=some (.map (m.E.map JG) m.st m.ck):=N.gq hq;have a2:=N.gr hr hn;have hc:=N.hc;have hx:=N.hx;have G:=N.setq (Cs hq) (m.set ((j:Int),n) v);have a6:=G.hx;have U:=Vn j n 12 0;simp only[AH,AJ,AO,AB 132 6];simp[f0,f5,f6,hc];simp only[Aa,AB 132 7];simp[a2,hc,hx,a1,Z,Be,V.eqL,V.eq1];have fin:∀row,row=(m.set ((j:Int),n) v).row->Bd Tryz.prog BK (oG 132 9) (λs'=>match (AK s'.e 49).copy with
   | .v (.bool t)=>if t then AX .ret Q ⟨[(0,AK s'.e 0),(5,AK s'.e 5),(6,AK s'.e 6),(49,AK s'.e 49)],s'.h⟩ else AX .skip Q ⟨[(0,AK s'.e 0),(5,AK s'.e 5),(6,AK s'.e 6),(49,AK s'.e 49)],s'.h⟩
   |_=>False) ⟨[(0,.R r 0),(5,.R c 0),(6,.R x 0)],H.set q row⟩:=by
  rintro row rfl;simp only[AB 132 9];simp[a6,U];by_cases hd:(j:Int)=12/\n=0
  .rw[if_pos hd];exact O AE hd.2 _ _ G
  .rw[if_neg hd];exact W hd _ _ rfl rfl rfl G
 cases hi:m.E.findIdx? (λx=>x.fst==((j:Int),n))with
 |none=>
  simp;exact fin _ (HM.row_new v hi).symm
 |some i=>
  simp;exact fin _ (HM.row_old v hi).symm
def gP(h:List Row)(q:Nat){m:HM}{c x:Nat}{n v:Int}(Z:AK e 0= .R r 0)(f5:AK e 5= .R c 0)(f6:AK e 6= .R x 0)(U:PFm h q m c x v j n H)(N:0<=n)(a1:n<=4096)(hj:j<=12)(Q:AExit->St->Prop)(J:∀O,PFm h q m c H.length v ((j+1:Nat):Int) (n/2) O->Q .normal ⟨[(0,.R r 0),(5,.R c 0),(6,.R H.length 0)],O⟩):
  AX (.seq (.seq (.reg (oG 132 10) [0,5,50]) (.reg (oG 132 11) [0,5,6])) (.reg (oG 132 2) [0,5,6])) Q ⟨e,H⟩:=by
 have w1:IntKind.i64.wrap ((j:Int)+1)=((j+1:Nat):Int):=AS AE AE;have w2:IntKind.i64.wrap (n/2)=n/2:=AS AE AE;have hx:=U.hx;have G:=(U.newx j n).setx ((j+1:Nat):Int) (n/2);have W:(H++[Row.cells [(j:D),(n:D)]]).set H.length (.cells [(((j+1:Nat):Int):D),((n/2:Int):D)])=H++[.cells [(((j+1:Nat):Int):D),((n/2:Int):D)]]:=Wm _ _ _;rw[W]at G;simp only[AH,AJ,AB 132 10];simp[Z,f5,f6,hx];simp only[AB 132 11];simp[AQ];simp only[AB 132 2];simp[AQ,w1,ub N,w2];exact J _ G
theorem oY(h:List Row)(r q:Nat)(d:D)(y:Row)(hr:h[r]?=some (.cells [d,.mr q]))(hq:h[q]?=some y)(hn:r≠q)(hl:∀row∈h,Row.low h.length row=true)(n0 v0:Int)(N:HM)(U x0:Nat)(H0:List Row)(a8:0<=n0)(b2:n0 <4096)(a1:PFm h q N U x0 v0 0 n0 H0):
   AX (.loop (lG 132 0)) (λe s=>e= .ret/\s.h.take h.length=h.set q (I3 12 0 n0 v0 N).row) ⟨[(0,.R r 0),(5,.R U 0),(6,.R x0 0)],H0⟩:=by
 refine Ag 12 (λj s=>∃(n v w:Int)(m:HM)(c x:Nat),s.e=[(0,.R r 0),(5,.R c 0),(6,.R x 0)]/\0<=n/\n <((2^(12-j):Nat):Int)/\PFm h q m c x w j n s.h/\
   ((j=0/\w=v)\/(0 <j/\Eg (m.get ((j:Int)-1,2*n)) (m.get ((j:Int)-1,2*n+1))=some v))/\I3 (12-j) j n v m=I3 12 0 n0 v0 N) ⟨n0,v0,v0,N,U,x0,rfl,a8,by simpa using b2,a1,.inl ⟨rfl,rfl⟩,rfl⟩ ?_
 rintro j ⟨se,sh⟩ hj ⟨n,v,w,m,c,x,he,b0,O,hF,hv,hR⟩;simp only at he hF;subst he;have J:n<=4096:=by have:2^(12-j)<=2^12:=uX Ah AE;have e:2^12=4096:=Ah;omega
 rw[<-hR];simp only[BG 132 0];rw[AH,AY,AH];refine gS h r q d y hr hq hn hl hF hj b0 J hv _ ?_;intro e' H' f0 f5 f6 Z;simp only[];refine gQ h r q d y hr hq hn f0 f5 f6 Z _ ?_ ?_
 .rintro rfl rfl e2 H2 G;exact⟨rfl,G.pre⟩
 .intro hd e2 H2 g5 g6 g0 G;simp only[];have a7:j <12:=by
   rcases sL j 12 with h|h
   .exact h
   .exfalso;have:j=12:=AE;subst this;simp at O;exact hd ⟨rfl,AE⟩
  refine gP h q g0 g5 g6 G b0 J hj _ ?_;intro H3 a2;obtain⟨f,hf⟩:∃f,12-j=f+1:=⟨11-j,AE⟩;have a6:12-(j+1)=f:=AE;rw[hf]at O ⊢;rw[a6];refine⟨a7,n/2,(Eg ((m.set ((j:Int),n) v).get ((j:Int),2*(n/2))) ((m.set ((j:Int),n) v).get ((j:Int),2*(n/2)+1))).getD 0,v,m.set ((j:Int),n) v,c,H2.length,rfl,AE,?_,a2,.inr ⟨AE,?_⟩,?_⟩
  .rw[Nat.pow_succ]at O;omega
  .have ej:((j+1:Nat):Int)-1=j:=AE;rw[ej];refine MZ ?_;have W:n%2=0\/n%2=1:=AE;rcases W with W|W
   .exact .inl (by rw[HM.get_set,show 2*(n/2)=n by omega];simp)
   .exact .inr (by rw[HM.get_set,show 2*(n/2)+1=n by omega];simp)
  .rfl
theorem nU(h:List Row)(r q:Nat)(d:D)(y:Row)(J:h[r]?=some (.cells [d,.mr q]))(m:HM)(O:h[q]?=some m.row)(hn:r≠q)(N:∀row∈h,Row.low h.length row=true)(k v:Int)(W:0<=k)(Z:k <4096):FX 132 [.R r 0,k,.v (Ea (some v))] h [] (h.set q (I3 12 0 k v m).row):=by
 refine At (D6 132) rfl Ac ?_ Ac ?_
 .intro row G;rw[so];rcases sn G with J|rfl
  .exact N row J
  .rfl
 have hF:PFm h q m h.length (h.length+1) v 0 k (h++[.cells [.v (.int .u64 v),.v (.bool true)],.cells [((0:Int):D),k]]):=by
  refine⟨?_,Ac,Ac,AE,AE,AE,?_⟩
  .rw[tg (ri _),sN (ri _)];obtain⟨g1,U⟩:=rZ.1 O;rw[<-U,vM]
  .simp[Row.low,D.lts,D.lt]
 have hL:=oY h r q d _ J O hn N k v m _ _ _ W Z hF;simp only[As 132,AH,AJ,AY,AB 132 0,AZ];simp[Ea];simp only[AB 132 1];simp[AQ];refine Ap _ ?_ hL;rintro e s ⟨rfl,hs⟩;simp[AW 132];exact⟨s.h.drop h.length,by rw[<-hs,sa]⟩
end
section
structure KM where
 E:List (Int×List Int)
 st:List Nat
 ck:Nat
def IL(x:Int×List Int):V×V:=(.int .i64 x.1,AM .u8 x.2)
def KM.row(m:KM):Row:= .map (m.E.map IL) m.st m.ck
def KM.set(m:KM)(k:Int)(v:List Int):KM:=
 match m.E.findIdx? λx=>x.1==k with
 |none=>⟨m.E++[(k,v)],m.st++[m.ck],m.ck+1⟩
 |some i=>⟨m.E.set i (k,v),m.st,m.ck⟩
def Lm(a:Int):∀E:List (Int×List Int),Cr false [0] (a:V) (E.map IL)=some (E.findIdx? λx=>x.1==a)
 |[]=>rfl
 |x::E=>by
  obtain⟨c,v⟩:=x;have G:Be false [0] (c:V)=true:=by simp[Be,V.eqL,V.eq1,V.cells]
  simp only[rq,IL,Cr,G,if_true,V.cells,V.eqL,V.eq1,uP,Lm a E,tO];have e:(c==a)=(a==c):=tC.2 (by simp only[beq_iff_eq];exact eq_comm);rw[e];cases a==c<;>simp
def KM.row_new{m:KM}{k:Int}(v:List Int)(h:(m.E.findIdx? λx=>x.1==k)=none):(m.set k v).row= .map (m.E.map IL++[IL (k,v)]) (m.st++[m.ck]) (m.ck+1):=by simp[KM.set,h,KM.row]
variable {i:Nat}
def KM.row_old{m:KM}{k:Int}(v:List Int)(h:(m.E.findIdx? λx=>x.1==k)=some i):(m.set k v).row= .map ((m.E.map IL).set i (IL (k,v))) m.st m.ck:=by simp[KM.set,h,KM.row,List.map_set]
def Yg(xs:List Int)(J:xs.length<=2^45):PX 117 [AM .u8 xs] [AM .u8 xs]:=by
 refine BS 117 ?_;have G:AV xs.length 1=true:=by simp[AV];omega
 cases xs with
 |nil=>simp[As 117,awp,AB 117 0,AB 117 1,AB 117 2,AB 117 3,AW 117,Ad,AM,AV]
 |cons x xs=>simp[As 117,awp,AB 117 0,AB 117 1,AB 117 2,AB 117 3,AW 117,Ad,AM]at G ⊢;simp[G]
def qi(h:List Row):FX 50 [] h [.R (h.length+2) 0] (h++[KM.row ⟨[],[],0⟩,HM.row ⟨[],[],0⟩,.cells [.mr h.length,.mr (h.length+1)]]):=by refine EH 50 ?_;simp[As 50,awp,AB 50 0,AB 50 1,AW 50,AZ,AQ,KM.row,HM.row]
def KT(k:Int)(bs:List Int):Int:=if 0<=k/\k<=4095 then (if bs.length>65536 then 4 else 0) else 5
theorem qh(h:List Row)(t a q:Nat)(K:KM)(m:HM)(ht:h[t]?=some (.cells [.mr a,.mr q]))(ha:h[a]?=some K.row)(hq:h[q]?=some m.row)(n1:t≠a)(n2:t≠q)(n3:a≠q)(hl:∀row∈h,Row.low h.length row=true)(k:Int)(bs:List Int)(hb:∀x∈bs,0<=x/\x <256)(a6:bs.length<=2^39):
  FX 52 [.R t 0,k,.v (AM .u8 bs)] h [((KT k bs:Int):D)] (if KT k bs=0 then (h.set a (K.set k bs).row).set q (I3 12 0 k (CX k bs) m).row else h):=by
 refine EH 52 ?_;have N:=(Zx k).fsp;simp at N;by_cases J:0<=k/\k<=4095
 .have e1:(decide (0<=k)&&decide (k<=4095))=true:=by simpa using J
  rw[e1]at N;by_cases a2:65536 <bs.length
  .have O:KT k bs=4:=by simp[KT,J,a2]
   have G:65536 <(bs.length:Int):=AE;rw[O,if_neg Ah];simp only[Zw,As 52,AB 52 0,AB 52 1,AZ];simp[AM];refine⟨_,_,N _,?_⟩;simp[AB 52 3,G,AA,AB 52 4,AW 52]
  .have O:KT k bs=0:=by simp[KT,J];omega
   have G:¬65536 <(bs.length:Int):=AE;have p2:=Yg bs AE;have p3:=(eT k bs hb a6).fsp;simp[AM]at p2 p3;have a8:=Lm k K.E;have a1:h[a]?=some (.map (K.E.map IL) K.st K.ck):=ha;rw[O,if_pos rfl];obtain⟨Z,U⟩:∃Z,(h.set a (K.set k bs).row).set q (I3 12 0 k (CX k bs) m).row=Z:=⟨_,rfl⟩;rw[U];simp only[Zw,As 52,AB 52 0,AB 52 1,AZ];simp[AM];refine⟨_,_,N _,?_⟩;simp[AB 52 3,G,AD];simp only[Aa,AB 52 5];simp[ht];refine⟨_,_,⟨rfl,rfl⟩,_,p2,?_⟩;simp[a1,a8,Be,V.eqL,V.eq1];have fin:∀row,row=(K.set k bs).row->Bd Tryz.prog BK (oG 52 6) (λs'=>Bd Tryz.prog BK (oG 52 7) (λs'=>AX .ret (λe s=>(match e with| .exit _=>False|_=>True)/\Dg s (gR 52)=some [((0:Int):D)]/\s.h=Z) ⟨[(6,AK s'.e 6)],s'.h⟩) ⟨[],s'.h⟩)
     ⟨[(0,.R t 0),(1,(k:D)),(2,(bs.map (V.int .u8):D))],h.set a row⟩:=by
    rintro row rfl;have a7:∀row∈h.set a (K.set k bs).row,Row.low (h.set a (K.set k bs).row).length row=true:=by
     intro row W;rw[so];rcases sn W with hr|rfl
     .exact hl row hr
     .rfl
    have p4:=nU (h.set a (K.set k bs).row) t q (.mr a) .dead (by rw[sG (Ne.symm n1)];exact ht) m (by rw[sG n3];exact hq) n2 a7 k (CX k bs) J.1 AE;simp only[AB 52 6];simp;refine⟨_,_,p3 _,?_⟩;simp[AQ];simp[Ea]at p4;refine⟨_,_,p4,?_⟩;simp[AB 52 7,AA,AW 52,U]
   cases hi:K.E.findIdx? (λx=>x.fst==k)with
   |none=>
    simp;exact fin _ (KM.row_new bs hi).symm
   |some i=>
    simp;exact fin _ (KM.row_old bs hi).symm
 .have O:KT k bs=5:=by simp[KT,J]
  have e1:(decide (0<=k)&&decide (k<=4095))=false:=by simpa using J
  rw[e1]at N;rw[O,if_neg Ah];simp only[Zw,As 52,AB 52 0,AB 52 1,AZ];simp[AM];refine⟨_,_,N _,?_⟩;simp[AA,AB 52 2,AW 52]
end
def Wy(ps:List (Int×List Int))(k:Int):Nat:=ps.findIdx λp=> !decide (p.1 <k)
def Te(ps:List (Int×List Int))(k:Int)(v:List Int):List (Int×List Int):=ps.take (Wy ps k)++(k,v)::ps.drop (Wy ps k)
def Jp(n:Int):Int:=JO [107,101,121] [IntKind.i64.wrap n]
def Bs{P:Program}{GL:Ai}:∀(n:Nat){G:List GI}{K:St->Prop}{s:St},(∀J:St->Prop,(∀s,Bd P GL (G.drop n) K s->J s)->Bd P GL (G.take n) J s)->Bd P GL G K s:=by
 have app:∀(a b:List GI)(K:St->Prop),Bd P GL (a++b) K=Bd P GL a (Bd P GL b K):=by
  intro a b K;induction a with
  |nil=>rfl
  |cons x a ih=>funext s;simp only[sw,Bd,ih]
 intro n G K s h;have:=h (Bd P GL (G.drop n) K) λ_ h=>h;rw[<-app,sa]at this;exact this
def U5(n m:Int):PX 270 [n,m] [(decide (0<=n)&&decide (n<=m):V)]:=by refine BS 270 ?_;by_cases G:0<=n<;>by_cases h2:n<=m<;>simp[As 270,awp,AB 270 0,AB 270 1,AW 270,Ad,G,h2]
structure Hd where
 office:Int
 tick:Int
 day:Int
 size:Int
 log:Int
 map:Int
 sealed:Int
 sign:Int
def Hd.C(h:Hd):List V:=[.int .i64 h.office,.int .i64 h.tick,.int .i64 h.day,.int .i64 h.size,.int .u64 h.log,.int .u64 h.map,.int .i64 h.sealed,.int .u64 h.sign]
def Hd.V(h:Hd):V:= .agg h.C
def Wl(k:Int)(h:Hd):Int:=JO [115,105,103,110] [IntKind.i64.wrap k,h.office,h.tick,h.day,h.size,IntKind.i64.wrap h.log,IntKind.i64.wrap h.map,h.sealed]
def Hd.formed(h:Hd):Bool:=(decide (0<=h.office)&&decide (h.office<=11))&&(decide (0<=h.tick)&&decide (h.tick<=1099511627776))&&(decide (0<=h.day)&&decide (h.day<=131072))&&(decide (0<=h.size)&&decide (h.size<=4096))&&(decide (0<=h.sealed)&&decide (h.sealed<=h.size))
def UG(k:Int)(h:Hd):Int:=if h.formed then (if h.sign=Wl k h then 0 else 23) else 1
def pr(n:Int):PX 31 [.int .u64 n] [.int .u64 (Jp n)]:=by
 refine BS 31 ?_;have e2:An ⟨#[107,101,121]⟩=[107,101,121]:=by simp[An]
 have G:=(dA ⟨#[107,101,121]⟩ [IntKind.i64.wrap n] Ah Ac).fsp;rw[e2]at G;simp[AM]at G;simp only[As 31,AH,AJ,AB 31 0,AB 31 1,Ad];simp;refine⟨_,_,G _,?_⟩;simp[AA,AW 31,Jp]
def je(k:Int)(h:Hd):PX 95 [.int .u64 k,h.V] [.int .u64 (Wl k h)]:=by
 refine BS 95 ?_;have e2:An ⟨#[115,105,103,110]⟩=[115,105,103,110]:=by simp[An]
 have G:=(jA ⟨#[115,105,103,110]⟩ [IntKind.i64.wrap k,h.office,h.tick,h.day,h.size,IntKind.i64.wrap h.log,IntKind.i64.wrap h.map,h.sealed] Ah Ac).fsp;rw[e2]at G;simp[AM]at G;simp only[As 95,AH,AJ,AB 95 0,AB 95 1,Ad,Hd.V,Hd.C];simp;simp only[AB 95 2];simp;refine⟨_,_,G _,?_⟩;simp[AA,AW 95,Wl]
def pf(k:Int)(h:Hd):PX 85 [.int .u64 k,h.V] [.int .u64 (Wl k h)]:=by
 refine BS 85 ?_;have e2:An ⟨#[115,105,103,110]⟩=[115,105,103,110]:=by simp[An]
 have G:=(dA ⟨#[115,105,103,110]⟩ [IntKind.i64.wrap k,h.office,h.tick,h.day,h.size,IntKind.i64.wrap h.log,IntKind.i64.wrap h.map,h.sealed] Ah Ac).fsp;rw[e2]at G;simp[AM]at G;simp only[As 85,AH,AJ,AB 85 0,Ad,Hd.V,Hd.C];simp;simp only[AB 85 1];simp;refine⟨_,_,G _,?_⟩;simp[AA,AW 85,Wl]
def Hd.signed(k:Int)(h:Hd):Hd:={h with sign:=Wl (Jp k) h}
def pq(k:Int)(h:Hd):PX 32 [.int .u64 k,h.V] [(h.signed k).V]:=by
 refine BS 32 ?_;have J:=pr k;have G:=pf (Jp k) h;simp only[Hd.V,Hd.C]at G ⊢
 try simp at J G
 simp only[As 32,AH,AJ,Aa,AB 32 0,AB 32 1,Ad];simp;refine⟨_,_,⟨rfl,rfl⟩,_,J,?_⟩
 try simp
 refine⟨_,_,⟨rfl,rfl⟩,_,G,?_⟩;simp[AQ];simp only[AB 32 2];simp[AQ,AA,AW 32,Hd.signed]
def Hd.bent(h:Hd)(i by_:Int):Hd:=
 if i=0 then {h with office:=by_} else if i=1 then {h with tick:=by_} else if i=2 then {h with day:=by_} else if i=3 then {h with size:=by_} else
 if i=4 then {h with log:=IntKind.u64.wrap by_} else if i=5 then {h with map:=IntKind.u64.wrap by_} else if i=6 then {h with sealed:=by_} else {h with sign:=IntKind.u64.wrap by_}
def po(h:Hd)(G J:Int):PX 33 [h.V,G,J] [(h.bent (Af G 8) J).V]:=by
 refine BS 33 ?_;have N:=(LZ G 8 Ah).fsp;simp only[Hd.V,Hd.C]at N ⊢;simp at N;simp only[Zw,As 33,AB 33 0,AB 33 1,Ad];simp;refine⟨_,_,N _,?_⟩;generalize Af G 8=a;unfold Hd.bent;by_cases O:a=0
 .subst O;simp[AB 33 3,AB 33 4,AB 33 17,AQ,AA,AW 33]
 by_cases U:a=1
 .subst U;simp[AB 33 3,AB 33 5,AB 33 6,AB 33 17,AQ,AA,AW 33]
 by_cases h2:a=2
 .subst h2;simp[AB 33 3,AB 33 5,AB 33 7,AB 33 8,AB 33 17,AQ,AA,AW 33]
 by_cases W:a=3
 .subst W;simp[AB 33 3,AB 33 5,AB 33 7,AB 33 9,AB 33 10,AB 33 17,AQ,AA,AW 33]
 by_cases Z:a=4
 .subst Z;simp[AB 33 3,AB 33 5,AB 33 7,AB 33 9,AB 33 11,AB 33 12,AB 33 17,AQ,AA,AW 33]
 by_cases h5:a=5
 .subst h5;simp[AB 33 3,AB 33 5,AB 33 7,AB 33 9,AB 33 11,AB 33 13,AB 33 14,AB 33 17,AQ,AA,AW 33]
 by_cases h6:a=6
 .subst h6;simp[AB 33 3,AB 33 5,AB 33 7,AB 33 9,AB 33 11,AB 33 13,AB 33 15,AB 33 16,AB 33 17,AQ,AA,AW 33]
 simp[O,U,h2,W,Z,h5,h6,AB 33 2,AB 33 3,AB 33 5,AB 33 7,AB 33 9,AB 33 11,AB 33 13,AB 33 15,AB 33 17,AQ,AA,AW 33]
def pn(h:Hd):PX 35 [h.V] [h.V]:=by refine BS 35 ?_;simp only[As 35,AH,AJ,AB 35 0,Ad,Hd.V,Hd.C];simp;simp only[AB 35 1];simp[AQ,AA,AW 35]
def mq(h:Hd):PX 187 [h.V] [(h.formed:V)]:=by
 refine BS 187 ?_;simp only[As 187,AH,AJ,AO,AB 187 0,Ad,Hd.V,Hd.C];obtain⟨J,N,a3,a4,a5,a6,a7,a8⟩:=h;simp only[Hd.formed];simp;simp only[AB 187 1];by_cases G:J <0
 .have:¬0<=J:=AE;simp[G,this,AB 187 2,AA,AW 187]
 by_cases O:11 <J
 .have:¬J<=11:=AE;simp[G,O,this,AB 187 2,AA,AW 187]
 by_cases U:N <0
 .have:¬0<=N:=AE;simp[G,O,U,this,AB 187 2,AA,AW 187]
 by_cases W:1099511627776 <N
 .have:¬N<=1099511627776:=AE;simp[G,O,U,W,this,AB 187 2,AA,AW 187]
 by_cases c5:a3 <0
 .have:¬0<=a3:=AE;simp[G,O,U,W,c5,this,AB 187 2,AA,AW 187]
 by_cases c6:131072 <a3
 .have:¬a3<=131072:=AE;simp[G,O,U,W,c5,c6,this,AB 187 2,AA,AW 187]
 have d1:0<=J:=AE;have d2:J<=11:=AE;have d3:0<=N:=AE;have d4:N<=1099511627776:=AE;have d5:0<=a3:=AE;have d6:a3<=131072:=AE;simp[G,O,U,W,c5,c6,d1,d2,d3,d4,d5,d6,AD];simp only[AB 187 3];by_cases c7:0<=a4<;>by_cases c8:a4<=4096<;>by_cases c9:0<=a7<;>by_cases Z:a7<=a4<;>simp[c7,c8,c9,Z,AA,AW 187]
def qT(k:Int)(h:Hd):PX 93 [.int .u64 k,h.V] [((UG k h:Int):V)]:=by
 refine BS 93 ?_;have G:=(mq h).fsp;have J:=pf k h;unfold UG;simp only[Hd.V,Hd.C]at G J ⊢;simp at G J;simp only[As 93,AH,AJ,AO,AB 93 0,Ad];simp;simp only[AB 93 1];simp;refine⟨_,_,G _,?_⟩;cases h.formed
 .simp[AB 93 2,AB 93 3,AA,AW 93]
 simp[AB 93 2,AD];simp only[Aa,AB 93 4];simp;refine⟨_,_,⟨rfl,rfl⟩,_,J,?_⟩;by_cases N:h.sign=Wl k h
 .simp[N,AB 93 6,AA,AW 93]
 .simp[N,AB 93 5,AA,AW 93]
def eI(h:Hd):PX 176 [.list [h.V]] [(h.formed:V)]:=by
 refine BS 176 ?_;have N:=(U5 h.office 11).fsp;have O:=(U5 h.tick 1099511627776).fsp;have U:=(U5 h.day 131072).fsp;have W:=(U5 h.size 4096).fsp;have Z:=(U5 h.sealed h.size).fsp;have w1:IntKind.i64.wrap 1=1:=Ah;have hf:h.formed=((decide (0<=h.office)&&decide (h.office<=11))&&(decide (0<=h.tick)&&decide (h.tick<=1099511627776))&&(decide (0<=h.day)&&decide (h.day<=131072))&&(decide (0<=h.size)&&decide (h.size<=4096))&&(decide (0<=h.sealed)&&decide (h.sealed<=h.size))):=rfl;generalize h.formed=F at*;generalize (decide (0<=h.office)&&decide (h.office<=11))=b1 at*;generalize (decide (0<=h.tick)&&decide (h.tick<=1099511627776))=b2 at*;generalize (decide (0<=h.day)&&decide (h.day<=131072))=b3 at*;generalize (decide (0<=h.size)&&decide (h.size<=4096))=b4 at*;generalize (decide (0<=h.sealed)&&decide (h.sealed<=h.size))=b5 at*;subst hf;simp at N O U W Z;simp only[Hd.V,Hd.C];simp only[As 176,AH,AJ,AY,AB 176 0,AB 176 1,AB 176 2,Ad];simp;cases b1
 .refine Av ?_;simp only[Zw,BG 176 0,AB 176 3];simp[AD];simp only[AB 176 4];simp[AQ];refine Bs 6 λJ G=>?_;simp[AB 176 5];refine⟨_,_,N _,?_⟩
  try simp
  refine G _ ?_;clear G J;simp[AB 176 5,AB 176 6,AA,AW 176]
 cases b2
 .refine Av ?_;simp only[Zw,BG 176 0,AB 176 3];simp[AD];simp only[AB 176 4];simp[AQ];refine Bs 6 λJ G=>?_;simp[AB 176 5];refine⟨_,_,N _,?_⟩
  try simp
  refine G _ ?_;clear G J;refine Bs 7 λJ G=>?_;simp[AB 176 5];refine⟨_,_,O _,?_⟩
  try simp
  refine G _ ?_;clear G J;simp[AB 176 5,AB 176 6,AA,AW 176]
 cases b3
 .refine Av ?_;simp only[Zw,BG 176 0,AB 176 3];simp[AD];simp only[AB 176 4];simp[AQ];refine Bs 6 λJ G=>?_;simp[AB 176 5];refine⟨_,_,N _,?_⟩
  try simp
  refine G _ ?_;clear G J;refine Bs 7 λJ G=>?_;simp[AB 176 5];refine⟨_,_,O _,?_⟩
  try simp
  refine G _ ?_;clear G J;refine Bs 7 λJ G=>?_;simp[AB 176 5];refine⟨_,_,U _,?_⟩
  try simp
  refine G _ ?_;clear G J;simp[AB 176 5,AB 176 6,AA,AW 176]
 cases b4
 .refine Av ?_;simp only[Zw,BG 176 0,AB 176 3];simp[AD];simp only[AB 176 4];simp[AQ];refine Bs 6 λJ G=>?_;simp[AB 176 5];refine⟨_,_,N _,?_⟩
  try simp
  refine G _ ?_;clear G J;refine Bs 7 λJ G=>?_;simp[AB 176 5];refine⟨_,_,O _,?_⟩
  try simp
  refine G _ ?_;clear G J;refine Bs 7 λJ G=>?_;simp[AB 176 5];refine⟨_,_,U _,?_⟩
  try simp
  refine G _ ?_;clear G J;refine Bs 7 λJ G=>?_;simp[AB 176 5];refine⟨_,_,W _,?_⟩
  try simp
  refine G _ ?_;clear G J;simp[AB 176 5,AB 176 6,AA,AW 176]
 cases b5
 .refine Av ?_;simp only[Zw,BG 176 0,AB 176 3];simp[AD];simp only[AB 176 4];simp[AQ];refine Bs 6 λJ G=>?_;simp[AB 176 5];refine⟨_,_,N _,?_⟩
  try simp
  refine G _ ?_;clear G J;refine Bs 7 λJ G=>?_;simp[AB 176 5];refine⟨_,_,O _,?_⟩
  try simp
  refine G _ ?_;clear G J;refine Bs 7 λJ G=>?_;simp[AB 176 5];refine⟨_,_,U _,?_⟩
  try simp
  refine G _ ?_;clear G J;refine Bs 7 λJ G=>?_;simp[AB 176 5];refine⟨_,_,W _,?_⟩
  try simp
  refine G _ ?_;clear G J;simp[AB 176 5];refine⟨_,_,Z _,?_⟩;simp[AB 176 6,AA,AW 176]
 refine Bu (s1:=⟨[(3,.v (.func 270 [])),(6,.v (.list [.agg h.C])),(7,((1:Int):D)),(8,((1:Int):D))],[.cells (h.C.map .v)]⟩) ?_ ?_
 .simp only[Hd.C];simp only[Zw,BG 176 0,AB 176 3];simp[AD];simp only[AB 176 4];simp[AQ];refine Bs 6 λJ G=>?_;simp[AB 176 5];refine⟨_,_,N _,?_⟩
  try simp
  refine G _ ?_;clear G J;refine Bs 7 λJ G=>?_;simp[AB 176 5];refine⟨_,_,O _,?_⟩
  try simp
  refine G _ ?_;clear G J;refine Bs 7 λJ G=>?_;simp[AB 176 5];refine⟨_,_,U _,?_⟩
  try simp
  refine G _ ?_;clear G J;refine Bs 7 λJ G=>?_;simp[AB 176 5];refine⟨_,_,W _,?_⟩
  try simp
  refine G _ ?_;clear G J;simp[AB 176 5];refine⟨_,_,Z _,?_⟩;simp[AB 176 7,w1]
 .refine Av ?_;simp only[Zw,BG 176 0,AB 176 3];simp[AN,AB 176 8,AA,AW 176]
def ji(k:Int)(h:Hd):PX 86 [.int .u64 k,h.V] [((UG k h:Int):V)]:=by
 refine BS 86 ?_;have G:=(eI h).fsp;have J:=je k h;unfold UG;simp only[Hd.V,Hd.C]at G J ⊢;simp at G J;simp only[Zw,As 86,AB 86 0,AB 86 1,Ad];simp;refine⟨_,_,G _,?_⟩;cases h.formed
 .simp[AB 86 2,AA,AW 86]
 simp only[Aa,AB 86 3];simp;refine⟨_,_,⟨rfl,rfl⟩,_,J,?_⟩;by_cases N:h.sign=Wl k h
 .simp[N,AD,AB 86 5,AA,AW 86]
 .simp[N,AB 86 4,AA,AW 86]
open Go.Proofs
end Go.Va
