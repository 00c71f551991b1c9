/- Laws, part 5. No condition. -/
import Derived.Test.YtopldfpkgbkomaaGreatDoorL04
set_option linter.all false
set_option maxRecDepth 100000
set_option maxHeartbeats 4000000
noncomputable section
namespace Go.Va
open Go.Proofs
section
variable {s:St} {Q:AExit->St->Prop}
section
variable {P:Program} {GL:Ai}
def Aw{c:AC}(n:Nat)(S:Nat->St)(I:Nat->Prop)(U:s=S 0)(N:I 0)(h:∀k,k<=n->I k->awp P GL c (λe s'=>match e with| .normal=>k <n/\I (k+1)/\s'=S (k+1)|e=>Q e s') (S k)):awp P GL (.loop c) Q s:=by
 subst U;refine⟨λm s=>∃k,k<=n/\m=n-k/\I k/\s=S k,⟨n,0,tB _,rfl,N,rfl⟩,?_⟩;rintro m s ⟨k,O,rfl,hi,rfl⟩;refine Ap c ?_ (h k O hi);intro e s' h;cases e with
 |normal=>obtain⟨J,G,rfl⟩:=h;exact⟨n-(k+1),AE,k+1,J,rfl,G,rfl⟩
 |exit i=>exact h
 |ret=>exact h
end
def Ef(n d:Int):Bool:=decide (1<=d/\d<=1048576/\n<=1099511627776/\ -1099511627776<=n/\Int.gcd n d=1)
def BE(n d:Int):V:= .agg [.int .i64 n,.int .i64 d]
def oJ(m:Nat):∀(a b:Nat),b<=m->a <2^64->b <2^64->
  AX (.loop (lG 350 0)) (λe s=>e= .exit 0/\AK s.e 0= .v (.int .u64 (Nat.gcd a b))) ⟨[(0,.v (.int .u64 a)),(1,.v (.int .u64 b))],[]⟩:=by
 induction m with
 |zero=>
  intro a b U J h2;have:b=0:=AE;subst this;refine Av ?_;simp only[Zw,BG 350 0,AB 350 1];simp[AN]
 |succ m ih=>
  intro a b U J h2;by_cases N:b=0
  .exact ih a b AE J h2
  .have W:=Nat.mod_lt a (show 0 <b by omega);have G:=ih b (a%b) AE h2 AE;have e:Nat.gcd b (a%b)=Nat.gcd a b:=by rw[Nat.gcd_comm,<-Nat.gcd_rec,Nat.gcd_comm]
   rw[e]at G;refine Bu ?_ G;simp only[Zw,BG 350 0,AB 350 1];have Z:IntKind.u64.wrap ((a:Int)%b)=((a%b:Nat):Int):=by rw[BL AE AE];rfl
   have O:0 <b:=AE;simp[O,AD,Aa,AB 350 2,vH,N]
theorem jy(a b:Nat)(G:a <2^64)(h2:b <2^64):PX 350 [.int .u64 a,.int .u64 b] [.int .u64 (Nat.gcd a b)]:=by refine BS 350 ?_;simp only[As 350,AH,AY,AJ,AB 350 0,Ad];simp;refine Ap _ ?_ (oJ b a b (ri _) G h2);rintro e s ⟨rfl,h⟩;simp[AB 350 3,h,AA,AW 350]
def dN(n:Int)(J:i64 n):PX 330 [n] [.int .u64 n.natAbs]:=by
 refine BS 330 ?_;unfold i64 at J;by_cases G:n <0
 .simp[As 330,awp,AB 330 0,AB 330 1,AB 330 2,AW 330,Ad,G];simp only[EJ];omega
 .simp[As 330,awp,AB 330 0,AB 330 1,AB 330 3,AW 330,Ad,G];simp only[EJ];omega
def IQ(neg:Bool)(n d:Nat):List V:=
 if n/Nat.gcd n d>1099511627776\/d/Nat.gcd n d>1048576 then [BE 0 0,.int .i64 5]
 else [BE (if neg then -((n/Nat.gcd n d:Nat):Int) else ((n/Nat.gcd n d:Nat):Int)) ((d/Nat.gcd n d:Nat):Int),.int .i64 0]
def kE(neg:Bool)(n d:Nat)(W:n <2^64)(h2:d <2^64)(hd:0 <d):PX 329 [neg,.int .u64 n,.int .u64 d] (IQ neg n d):=by
 refine BS 329 ?_;have hg:0 <Nat.gcd n d:=Nat.gcd_pos_of_pos_right _ hd;have a1:=Nat.div_le_self n (Nat.gcd n d);have Z:=Nat.div_le_self d (Nat.gcd n d);have hp:=jy n d W h2;unfold IQ;generalize Nat.gcd n d=g at*;have qa:(n:Int)/g=((n/g:Nat):Int):=rfl;have qb:(d:Int)/g=((d/g:Nat):Int):=rfl;generalize n/g=a at*;generalize d/g=b at*;have w1:IntKind.u64.wrap (a:Int)=a:=BL AE AE;have w2:IntKind.u64.wrap (b:Int)=b:=BL AE AE;have O:g≠0:=AE;simp only[As 329,AH,AJ,Aa,AO,AB 329 0,AB 329 1,AB 329 2,AB 329 3,Ad];simp;refine⟨_,_,hp.fsp _,?_⟩;simp[ub,qa,qb,w1,w2,O];have w3:IntKind.i64.wrap (a:Int)=a\/1099511627776 <a:=by
  by_cases h:a<=1099511627776
  .exact .inl (AS AE AE)
  .exact .inr AE
 by_cases N:1099511627776 <(a:Int)
 .have G:1099511627776 <a:=AE;simp[N,G,AA,AB 329 4,AW 329,AQ,BE]
 .have G:¬1099511627776 <a:=AE;by_cases U:1048576 <(b:Int)
  .have J:1048576 <b:=AE;simp[N,G,U,J,AA,AB 329 4,AW 329,AQ,BE]
  .have J:¬1048576 <b:=AE;have w5:IntKind.i64.wrap (a:Int)=a:=AS AE AE;have w6:IntKind.i64.wrap (b:Int)=b:=AS AE AE;have w7:IntKind.i64.wrap (-(a:Int))= -a:=AS AE AE;cases neg<;>simp[N,G,U,J,AD,AA,AB 329 5,AB 329 6,AB 329 7,AB 329 8,AW 329,AQ,BE,w5,w6,w7]
theorem T9(n d:Int)(hd:1<=d)(O:i64 n)(h2:i64 d):(IQ (decide (n <0) != decide (d <0)) n.natAbs d.natAbs=[BE n d,((0:Int):V)])↔Ef n d=true:=by
 unfold IQ Ef;unfold i64 at O h2;have e:Int.gcd n d=Nat.gcd n.natAbs d.natAbs:=rfl;have hg:0 <Nat.gcd n.natAbs d.natAbs:=Nat.gcd_pos_of_pos_right _ AE;have N:decide (d <0)=false:=by simp;omega
 simp only[N];rw[e]
 constructor
 .intro h;split at h
  .simp[BE]at h
  .rename_i hc;simp[BE]at h;have hb:d.natAbs/Nat.gcd n.natAbs d.natAbs=d.natAbs:=AE;have G:Nat.gcd n.natAbs d.natAbs=1:=by
    rcases sL 1 (Nat.gcd n.natAbs d.natAbs)with J|J
    .have:=Nat.div_lt_self (show 0 <d.natAbs by omega) J;omega
    .omega
   rw[G]at hc;simp[G]at hc ⊢;omega
 .intro h;simp at h;obtain⟨J,W,Z,h6,U⟩:=h;rw[U];rw[if_neg Dd];simp[BE]
  constructor
  .split<;>omega
  .omega
def Mt(neg:Bool)(n d:Nat):IQ neg n d=[BE 0 0,((5:Int):V)]\/∃a b,IQ neg n d=[BE a b,((0:Int):V)]:=by
 unfold IQ;split
 .exact .inl rfl
 .exact .inr ⟨_,_,rfl⟩
def kV(n d:Int)(hd:d≠0)(G:i64 n)(h2:i64 d):PX 306 [n,d] (IQ (decide (n <0) != decide (d <0)) n.natAbs d.natAbs):=by
 refine BS 306 ?_;simp only[As 306,AH,AJ,AO,AB 306 0,AB 306 1,Ad];simp[hd,AD,AB 306 3];refine⟨_,_,(dN n G).fsp _,?_⟩;simp;refine⟨_,_,(dN d h2).fsp _,?_⟩;simp;have hx:(decide (n <0) != decide (d <0))= !(decide (n <0)==decide (d <0)):=rfl
 try rw[<-hx]
 unfold i64 at G h2;refine⟨_,_,(kE _ n.natAbs d.natAbs AE AE AE).fsp _,?_⟩;generalize (decide (n <0) != decide (d <0))=ng;obtain h|⟨a,b,h⟩:=Mt ng n.natAbs d.natAbs<;>rw[h]<;>simp[BE,AA,AW 306,AQ]
def W4(n d:Int)(O:i64 n)(h2:i64 d):PX 248 [BE n d] [((if Ef n d then 0 else 1:Int):V)]:=by
 refine BS 248 ?_;simp only[As 248,AH,AJ,AO,AB 248 0,AB 248 1,Ad];simp[BE];by_cases hd:d <1
 .have:Ef n d=false:=by unfold Ef;simp;omega
  simp[hd,this,AA,AB 248 2,AW 248]
 .have W:=(kV n d AE O h2);have G:=T9 n d AE O h2;simp[hd,AD,AB 248 3];refine⟨_,_,W.fsp _,?_⟩;obtain h|⟨a,b,h⟩:=Mt (decide (n <0) != decide (d <0)) n.natAbs d.natAbs
  .have J:Ef n d=false:=by
    cases N:Ef n d with
    |false=>rfl
    |true=>rw[G.2 N]at h;simp at h
   rw[h,J];simp[BE,AA,AB 248 4,AB 248 5,AW 248,AQ]
  .have J:Ef n d=decide (a=n/\b=d):=by rw[h]at G;simp[BE]at G;rw[tC,<-G];simp
   rw[h,J];by_cases N:a=n<;>by_cases U:b=d<;>simp[N,U,BE,AA,AB 248 4,AB 248 5,AB 248 6,AW 248,AQ,V.eqL,V.eq1]
def QB{n d:Int}(h:Ef n d=true):1<=d/\d<=1048576/\n<=1099511627776/\ -1099511627776<=n:=by unfold Ef at h;simp at h;omega
def Sa{a b:Int}(G:a<=1099511627776)(h2: -1099511627776<=a)(J:1<=b)(N:b<=1048576):a*b<=1152921504606846976/\ -1152921504606846976<=a*b:=by have:=tJ G (show 0<=b by omega);have:=tJ h2 (show 0<=b by omega);omega
def XT(L:List V)(k:Nat)(W:k <2^40)(n d:Int)(N:i64 n)(h2:i64 d)(hx:L[k]?=some (BE n d))(m:Int)(O:(k:Int) <m)(h:List Row)(Q:AExit->St->Prop)(J:Ef n d=true->Q .normal ⟨[(6,(L:D)),(7,(m:D)),(8,((k+1:Nat):D))],h++[.cells [n,d]]⟩)(G:Ef n d=false->∀s,AK s.e 2=((1:Int):D)->Q .ret s):
  AX (lG 291 0) Q ⟨[(6,(L:D)),(7,(m:D)),(8,(k:D))],h⟩:=by
 have U:=Bt k;simp only[Zw,BG 291 0,AB 291 2];simp[O,AD,AB 291 3,hx,BE,AQ,AB 291 4];refine⟨_,_,(W4 n d N h2).fsp _,?_⟩;cases ho:Ef n d with
 |true=>
  have:=J ho;simp[AB 291 5,AB 291 7,U];simpa using this
 |false=>
  simp[AB 291 5,AA,AB 291 6];exact G ho _ rfl
theorem ke(a b c d:Int)(J:i64 a)(h2:i64 b)(N:i64 c)(O:i64 d):PX 291 [.list [BE a b,BE c d]] [((if Ef a b&&Ef c d then 0 else 1:Int):V)]:=by
 refine BS 291 ?_;simp only[As 291,AH,AJ,AY,AB 291 0,AB 291 1,Ad];simp;cases ho:Ef a b with
 |false=>
  refine Av ?_;refine XT [BE a b,BE c d] 0 AE a b J h2 rfl 2 AE [] _ (λh=>by rw[h]at ho;cases ho) ?_;intro _ s G;simp[AW 291,G]
 |true=>
  refine Bu (s1:=⟨[(6,.v (.list [BE a b,BE c d])),(7,((2:Int):D)),(8,((1:Int):D))],[.cells [a,b]]⟩) ?_ ?_
  .exact XT [BE a b,BE c d] 0 AE a b J h2 rfl 2 AE [] _ (λ_=>rfl) (λh=>by rw[h]at ho;cases ho)
  cases ho2:Ef c d with
  |false=>
   refine Av ?_;refine XT [BE a b,BE c d] 1 AE c d N O rfl 2 AE [.cells [a,b]] _ (λh=>by rw[h]at ho2;cases ho2) ?_;intro _ s G;simp[AW 291,G]
  |true=>
   refine Bu (s1:=⟨[(6,.v (.list [BE a b,BE c d])),(7,((2:Int):D)),(8,((2:Int):D))],[.cells [a,b],.cells [c,d]]⟩) ?_ ?_
   .exact XT [BE a b,BE c d] 1 AE c d N O rfl 2 AE [.cells [a,b]] _ (λ_=>rfl) (λh=>by rw[h]at ho2;cases ho2)
   refine Av ?_;simp only[Zw,BG 291 0,AB 291 2];simp[AN,AA,AB 291 8,AW 291]
def H9(a b c d:Int):Bool:=decide (a*d <c*b)
def Qm(a b c d:Int):Int:=if a*d <c*b then -1 else if c*b <a*d then 1 else 0
def kb(a b c d:Int)(N:Ef a b=true)(h2:Ef c d=true):PX 292 [BE a b,BE c d] [((Qm a b c d:Int):V)]:=by
 refine BS 292 ?_;have q1:=QB N;have q2:=QB h2;have W:=Sa (a:=a) (b:=d) AE AE AE AE;have Z:=Sa (a:=c) (b:=b) AE AE AE AE;unfold Qm;have O:IntKind.i64.wrap (a*d)=a*d:=AS AE AE;have U:IntKind.i64.wrap (c*b)=c*b:=AS AE AE;simp only[Zw,As 292,Aa,AB 292 0,AB 292 1,AB 292 2,Ad];simp[BE,O,U];by_cases G:a*d <c*b
 .simp[G,AA,AB 292 3,AW 292]
 .by_cases J:c*b <a*d
  .simp[G,J,AA,AB 292 4,AB 292 5,AW 292]
  .simp[G,J,AD,AA,AB 292 4,AB 292 6,AW 292]
def dt(a b c d:Int)(N:i64 a)(h2:i64 b)(O:i64 c)(U:i64 d):PX 227 [BE a b,BE c d] (if Ef a b&&Ef c d then [((Qm a b c d:Int):V),((0:Int):V)] else [((0:Int):V),((1:Int):V)]):=by
 refine BS 227 ?_;have G:=(ke a b c d N h2 O U).fsp;simp only[As 227,AH,AJ,AO,AB 227 0,AB 227 1,AB 227 2,Ad];simp[BE]at G ⊢;refine⟨_,_,G _,?_⟩;cases ho1:Ef a b<;>cases ho2:Ef c d<;>simp[AD,AA,AB 227 3,AB 227 4,AW 227]
 have J:=(kb a b c d ho1 ho2).fsp;simp[BE]at J;refine⟨_,⟨_,J _⟩,?_⟩;simp
def W0(a b c d:Int)(G:Ef a b=true)(h2:Ef c d=true):PX 352 [BE a b,BE c d] [.bool (H9 a b c d)]:=by refine BS 352 ?_;have W:=QB G;have Z:=QB h2;have O:=Sa (a:=a) (b:=d) AE AE AE AE;have U:=Sa (a:=c) (b:=b) AE AE AE AE;have J:IntKind.i64.wrap (a*d)=a*d:=AS AE AE;have N:IntKind.i64.wrap (c*b)=c*b:=AS AE AE;simp[As 352,awp,AB 352 0,AB 352 1,AW 352,Ad,BE,J,N,H9]
def oP(m:Nat):∀(a b:Int),b.natAbs<=m->a.natAbs<=1099511627776->b.natAbs<=1099511627776->
  AX (.loop (lG 215 0)) (λe s=>e= .exit 0/\∃g:Int,g.natAbs=Int.gcd a b/\AK s.e 0=(g:D)) ⟨[(0,(a:D)),(1,(b:D))],[]⟩:=by
 induction m with
 |zero=>
  intro a b O J h2;have:b=0:=AE;subst this;refine Av ?_;simp only[Zw,BG 215 0,AB 215 1];simp[AN]
 |succ m ih=>
  intro a b O J h2;by_cases N:b=0
  .exact ih a b AE J h2
  .have e:(a.tmod b).natAbs=a.natAbs%b.natAbs:=Int.natAbs_tmod a b;have U:=Nat.mod_lt a.natAbs (show 0 <b.natAbs by omega);have G:=ih b (a.tmod b) AE h2 AE;have e2:Int.gcd b (a.tmod b)=Int.gcd a b:=by unfold Int.gcd;rw[e,Nat.gcd_comm,<-Nat.gcd_rec,Nat.gcd_comm]
   rw[e2]at G;refine Bu ?_ G;simp only[Zw,BG 215 0,AB 215 1];have W:IntKind.i64.wrap (a.tmod b)=a.tmod b:=AS AE AE;simp[AD,Aa,AB 215 2,N]
theorem mS(a b:Int)(J:a.natAbs<=1099511627776)(h2:b.natAbs<=1099511627776):PX 215 [a,b] [((Int.gcd a b:Int):V)]:=by
 refine BS 215 ?_;simp only[As 215,AH,AY,AJ,AB 215 0,Ad];simp;refine Ap _ ?_ (oP b.natAbs a b (ri _) J h2);rintro e s ⟨rfl,g,hg,h⟩;have N:Int.gcd a b<=2199023255552:=by
  unfold Int.gcd;rcases ur a.natAbs with h3|h3
  .rw[h3,Nat.gcd_zero_left];omega
  .have:=Nat.gcd_le_left b.natAbs h3;omega
 by_cases G:g <0
 .have w:IntKind.i64.wrap (-g)= -g:=AS AE AE;simp[AB 215 3,h,G,AH,AJ,AO,AA,AB 215 4,AW 215,w];omega
 .simp[AB 215 3,h,G,AH,AJ,AO,AD,AA,AB 215 5,AW 215];omega
def Zy(n d:Int)(W:i64 n)(h2:i64 d):PX 127 [BE n d] [((if Ef n d then 0 else 1:Int):V)]:=by
 refine BS 127 ?_;simp only[As 127,AH,AJ,AO,AB 127 0,AB 127 1,Ad];unfold Ef;by_cases G:d <1
 .simp[BE,G,AA,AB 127 2,AW 127];omega
 by_cases J:1048576 <d
 .simp[BE,G,J,AA,AB 127 2,AW 127];omega
 by_cases N:1099511627776 <n
 .simp[BE,G,J,N,AA,AB 127 2,AW 127];omega
 by_cases O:n < -1099511627776
 .simp[BE,G,J,N,O,AA,AB 127 2,AW 127];omega
 simp[BE,G,J,N,O];refine⟨_,_,(mS n d AE AE).fsp _,?_⟩;by_cases U:Int.gcd n d=1
 .simp[U,AD,AA,AB 127 3,AW 127];omega
 .simp[U,AA,AB 127 2,AW 127];omega
end
section
structure Ivl where
 (ln ld hn hd:Int)
 (lo ho li hi:Bool)
def Ivl.V(x:Ivl):V:= .agg [.int .i64 x.ln,.int .i64 x.ld,.int .i64 x.hn,.int .i64 x.hd,.bool x.lo,.bool x.ho,.bool x.li,.bool x.hi]
def Ivl.ok(x:Ivl):Prop:=i64 x.ln/\i64 x.ld/\i64 x.hn/\i64 x.hd
structure End where
 (far n d:Int)
 (after:Bool)
def End.V(x:End):V:= .agg [.int .i64 x.far,.int .i64 x.n,.int .i64 x.d,.bool x.after]
def RQ(x:Ivl):End:=if x.li then ⟨-1,0,0,false⟩ else ⟨0,x.ln,x.ld,x.lo⟩
def RY(x:Ivl):End:=if x.hi then ⟨1,0,0,false⟩ else ⟨0,x.hn,x.hd,!x.ho⟩
variable {s:St} {K:St->Prop}
def BW{n0:Nat}(π:List (Nat×Nat))(N:MG n0 s.h.length π=true)(J:Nn s.h=true)(G:K ⟨s.e.map λp=>(p.1,p.2.ren π),BD π s.h⟩):∃s2,Qy n0 s s2/\K s2:=
 ⟨_,.inr ⟨π,N,J,λn=>FC π s.e n,rfl⟩,G⟩
theorem Zo(x:Ivl):PX 303 [x.V] [(RQ x).V,(RY x).V]:=by
 obtain⟨ln,ld,W,hd,lo,ho,li,hi⟩:=x;refine BS 303 ?_;rw[As 303];rw[AH,AJ];simp[AB 303 0,Ad,Ivl.V];rw[AH,Bf];obtain⟨R0,J⟩:∃R0:List D,R0=[.v (.int .i64 ln),.v (.int .i64 ld),.v (.int .i64 W),.v (.int .i64 hd),.v (.bool lo),.v (.bool ho),.v (.bool li),.v (.bool hi)]:=⟨_,rfl⟩;obtain⟨Z,hZ⟩:∃Z:List D,Z=[.v (.int .i64 0),.v (.int .i64 0),.v (.int .i64 0),.v (.bool false)]:=⟨_,rfl⟩;obtain⟨A,hA⟩:∃A:List D,A=[.v (.int .i64 0),.v (.int .i64 ln),.v (.int .i64 ld),.v (.bool lo)]:=⟨_,rfl⟩;obtain⟨B,hB⟩:∃B:List D,B=[.v (.int .i64 0),.v (.int .i64 W),.v (.int .i64 hd),.v (.bool !ho)]:=⟨_,rfl⟩;refine Bc _ (K:=λs=>AK s.e 1= .R 0 0/\AK s.e 2= .R 1 0/\AK s.e 3= .R 2 0/\
  ((AK s.e 4= .R 3 0/\AK s.e 5= .R 4 0/\s.h=[.cells R0,.cells Z,.cells Z,.cells A,.cells B])\/
   (AK s.e 4= .R 4 0/\AK s.e 5= .R 3 0/\s.h=[.cells R0,.cells Z,.cells Z,.cells B,.cells A]))) ?_ ?_
 .rintro s ⟨N,O,U,h⟩;have key:∀s:St,AK s.e 1= .R 0 0->AK s.e 2= .R 1 0->AK s.e 3= .R 2 0->AK s.e 4= .R 3 0->AK s.e 5= .R 4 0->s.h=[.cells R0,.cells Z,.cells Z,.cells A,.cells B]->
    AX (.seq (.seq (.reg (oG 303 2) [1,2,3,4,5,18]) (.cond (.t 18 false) (.reg (oG 303 3) [1,2,3,4,5]) .skip)) (.seq (.seq (.reg (oG 303 4) [2,3,4,5,21]) (.cond (.t 21 false) (.reg (oG 303 5) [2,3,4,5]) .skip)) (.seq (.regA (oG 303 6) [2,3] [[],[],[0],[0,1,2]] (.take 0 (.pick (.alt 1 (.take 2 (.take 3 .done)) (.alt 2 (.take 1 (.take 3 .done)) .none))))) .ret))) (λe s=>(match e with| .exit _=>False|_=>True)/\Cf s (gR 303)=some [(RQ ⟨ln,ld,W,hd,lo,ho,li,hi⟩).V,(RY ⟨ln,ld,W,hd,lo,ho,li,hi⟩).V]) ⟨Bv s.e [1,2,3,4,5],s.h⟩:=by
   rintro s N O U f4 f5 G;simp only[AH,AJ,AO,AB 303 2];simp[N,O,U,f4,f5,G,J];cases li<;>cases hi<;>simp[AD,AA,Bf,AB 303 3,AB 303 4,AB 303 5,AB 303 6,AQ,RQ,RY,End.V,hA,hB,hZ]<;>refine⟨_,.inl rfl,?_⟩<;>simp[AW 303]
  rcases h with ⟨f4,f5,G⟩|⟨f4,f5,G⟩
  .exact⟨s,.inl rfl,key s N O U f4 f5 G⟩
  .refine BW [(3,4),(4,3)] (by rw[G];rfl) (by rw[G];rfl) (key _ ?_ ?_ ?_ ?_ ?_ ?_)
   .rw[FC,N];rfl
   .rw[FC,O];rfl
   .rw[FC,U];rfl
   .rw[FC,f4];rfl
   .rw[FC,f5];rfl
   .rw[G,J,hZ,hA,hB];rfl
 .simp[AB 303 1,AQ,J,hZ,hA,hB]
end
def End.b(x:End):Prop:=x.far<=1/\ -1<=x.far/\x.n<=1099511627776/\ -1099511627776<=x.n/\0<=x.d/\x.d<=1048576
def Jl(a b:End):Bool:=
 if a.far≠b.far then decide (a.far <b.far) else if a.far≠0 then false else if a.n*b.d≠b.n*a.d then decide (a.n*b.d <b.n*a.d) else !a.after&&b.after
def VH{a b:Int}(J:a<=1099511627776)(h2: -1099511627776<=a)(G:0<=b)(N:b<=1048576):a*b<=1152921504606846976/\ -1152921504606846976<=a*b:=by have:=tJ J G;have:=tJ h2 G;omega
def dS(a b:End)(ha:a.b)(hb:b.b):PX 304 [a.V,b.V] [.bool (Jl a b)]:=by
 obtain⟨U,N,G,aa⟩:=a;obtain⟨fb,O,J,ab⟩:=b;unfold End.b at ha hb;simp only at ha hb;have m1:=VH (a:=N) (b:=J) AE AE AE AE;have m2:=VH (a:=O) (b:=G) AE AE AE AE;have w1:IntKind.i64.wrap (N*J)=N*J:=AS AE AE;have w2:IntKind.i64.wrap (O*G)=O*G:=AS AE AE;refine BS 304 ?_;unfold Jl;simp only[As 304,AH,AJ,AO,AB 304 0,Ad];simp only[End.V];simp[AB 304 1];by_cases W:U=fb
 .subst W;simp[AD,AB 304 3];by_cases h2:U=0
  .subst h2;simp[Aa,AB 304 5,w1,w2,AB 304 6];by_cases Z:N*J=O*G
   .rw[Z];simp[AB 304 8];cases aa<;>simp[AA,AW 304]
   .simp[Z,AA,AB 304 7,AW 304]
  .simp[h2,AA,AB 304 4,AW 304]
 .simp[W,AA,AB 304 2,AW 304]
def B8(n d:Int):Bool:=Ef n d&&decide (n<=1073741824/\ -1073741824<=n/\d<=32768)
def kT(n d:Int)(O:i64 n)(h2:i64 d):PX 309 [BE n d] [.bool (B8 n d)]:=by
 refine BS 309 ?_;have G:=(W4 n d O h2).fsp;unfold B8;simp only[As 309,AH,AJ,AB 309 0,Ad];simp[BE]at G ⊢;simp[AB 309 1];refine⟨_,_,G _,?_⟩;cases Ef n d with
 |false=>simp[AA,AW 309]
 |true=>
  by_cases J: -1073741824<=n<;>by_cases N:n<=1073741824<;>simp[J,N,AA,AW 309]
def dR(n d:Int)(O:i64 n)(h2:i64 d)(op inf:Bool):PX 308 [BE n d,op,inf] [.bool (if inf then decide (n=0/\d=0)&& !op else B8 n d)]:=by
 refine BS 308 ?_;have G:=(kT n d O h2).fsp;simp only[As 308,AH,AJ,AO,AB 308 0,Ad];simp[BE]at G ⊢;cases inf with
 |false=>
  simp[AB 308 1,AD,AB 308 3];refine⟨_,_,G _,?_⟩;simp[AA,AW 308]
 |true=>
  simp[AB 308 1,AB 308 2];by_cases J:n=0<;>by_cases N:d=0<;>simp[J,N,V.eqL,V.eq1,AA,AW 308]
def kW(l:List V):PX 305 [l] [((if l.length>32 then 4 else 0:Int):V)]:=by
 refine BS 305 ?_;simp only[As 305,AH,AJ,AO,AB 305 0,Ad];simp[AB 305 1];by_cases h:32 <(l.length:Int)
 .have h':32 <l.length:=AE;simp[h,h',AA,AB 305 2,AW 305]
 .have h':¬32 <l.length:=AE;simp[h,h',AD,AA,AB 305 3,AW 305]
def NF(n d:Int)(op inf:Bool):Bool:=if inf then decide (n=0/\d=0)&& !op else B8 n d
def ET(x:Ivl):Bool:=NF x.ln x.ld x.lo x.li&&NF x.hn x.hd x.ho x.hi&&Jl (RQ x) (RY x)
def Po{n d:Int}(h:B8 n d=true):1<=d/\d<=32768/\n<=1073741824/\ -1073741824<=n:=by unfold B8 at h;simp at h;have:=QB h.1;omega
theorem Yj{x:Ivl}(h:NF x.ln x.ld x.lo x.li=true):(RQ x).b:=by
 unfold NF at h;unfold RQ End.b;split at h
 .rename_i hi;simp[hi]
 .rename_i hi;have:=Po h;simp[hi];omega
theorem Yn{x:Ivl}(h:NF x.hn x.hd x.ho x.hi=true):(RY x).b:=by
 unfold NF at h;unfold RY End.b;split at h
 .rename_i hi;simp[hi]
 .rename_i hi;have:=Po h;simp[hi];omega
def dh(x:Ivl)(hx:x.ok):PX 258 [x.V] [.bool (ET x)]:=by
 refine BS 258 ?_;have G:=(dR x.ln x.ld hx.1 hx.2.1 x.lo x.li).fsp;have J:=(dR x.hn x.hd hx.2.2.1 hx.2.2.2 x.ho x.hi).fsp;have N:=(Zo x).fsp;have p4:=λU h2=>(dS (RQ x) (RY x) (Yj U) (Yn h2)).fsp;unfold ET;have O:∀n d op inf,(if inf then decide (n=0/\d=0)&& !op else B8 n d)=NF n d op inf:=λ_ _ _ _=>rfl;rw[O]at G J;generalize W:NF x.ln x.ld x.lo x.li=l1 at*;generalize Z:NF x.hn x.hd x.ho x.hi=l2 at*;simp only[As 258,AH,AJ,AO,AB 258 0,AB 258 1,Ad];simp[BE,Ivl.V]at G J N ⊢;simp[AB 258 2];refine⟨_,_,G _,?_⟩;simp;cases l1 with
 |false=>simp[AA,AB 258 3,AW 258]
 |true=>
  simp;refine⟨_,_,J _,?_⟩;simp;cases l2 with
  |false=>simp[AA,AB 258 3,AW 258]
  |true=>
   simp[AD,AB 258 4];refine⟨_,_,N _,?_⟩;have q:=p4 rfl rfl;simp[End.V]at q ⊢;refine⟨_,_,q _,?_⟩;simp[AA,AW 258]
section
def BQ(h l:List Row)(n k:Nat)(G:n=h.length+k):(h++l)[n]?=l[k]?:=by subst G;rw[sO AE];congr 1;omega
def Cd(h l:List Row)(n k:Nat)(x:Row)(G:n=h.length+k):(h++l).set n x=h++l.set k x:=by subst G;rw[uZ _ _ AE];congr 2;omega
@[simp high] theorem Y7 (h l:List Row):(h++l)[h.length]?=l[0]?:=BQ h l _ 0 AE
@[simp high] theorem YZ (h l:List Row) (x:Row):(h++l).set (h.length) x=h++l.set 0 x:=Cd h l _ 0 x AE
@[simp high] theorem Y6 (h l:List Row):(h++l)[h.length+1]?=l[1]?:=BQ h l _ 1 AE
@[simp high] theorem YY (h l:List Row) (x:Row):(h++l).set (h.length+1) x=h++l.set 1 x:=Cd h l _ 1 x AE
@[simp high] theorem Y5 (h l:List Row):(h++l)[h.length+1+1]?=l[2]?:=BQ h l _ 2 AE
@[simp high] theorem YX (h l:List Row) (x:Row):(h++l).set (h.length+1+1) x=h++l.set 2 x:=Cd h l _ 2 x AE
@[simp high] theorem Y4 (h l:List Row):(h++l)[h.length+2]?=l[2]?:=BQ h l _ 2 AE
@[simp high] theorem YW (h l:List Row) (x:Row):(h++l).set (h.length+2) x=h++l.set 2 x:=Cd h l _ 2 x AE
@[simp high] theorem Y3 (h l:List Row):(h++l)[h.length+1+1+1]?=l[3]?:=BQ h l _ 3 AE
@[simp high] theorem YV (h l:List Row) (x:Row):(h++l).set (h.length+1+1+1) x=h++l.set 3 x:=Cd h l _ 3 x AE
@[simp high] theorem Y2 (h l:List Row):(h++l)[h.length+3]?=l[3]?:=BQ h l _ 3 AE
@[simp high] theorem YU (h l:List Row) (x:Row):(h++l).set (h.length+3) x=h++l.set 3 x:=Cd h l _ 3 x AE
@[simp high] theorem Y0 (h l:List Row):(h++l)[h.length+1+1+1+1]?=l[4]?:=BQ h l _ 4 AE
@[simp high] theorem YT (h l:List Row) (x:Row):(h++l).set (h.length+1+1+1+1) x=h++l.set 4 x:=Cd h l _ 4 x AE
@[simp high] theorem Yz (h l:List Row):(h++l)[h.length+4]?=l[4]?:=BQ h l _ 4 AE
@[simp high] theorem YS (h l:List Row) (x:Row):(h++l).set (h.length+4) x=h++l.set 4 x:=Cd h l _ 4 x AE
@[simp high] theorem Yy (h l:List Row):(h++l)[h.length+1+1+1+1+1]?=l[5]?:=BQ h l _ 5 AE
@[simp high] theorem YR (h l:List Row) (x:Row):(h++l).set (h.length+1+1+1+1+1) x=h++l.set 5 x:=Cd h l _ 5 x AE
@[simp high] theorem Yx (h l:List Row):(h++l)[h.length+5]?=l[5]?:=BQ h l _ 5 AE
@[simp high] theorem YQ (h l:List Row) (x:Row):(h++l).set (h.length+5) x=h++l.set 5 x:=Cd h l _ 5 x AE
@[simp high] theorem Yw (h l:List Row):(h++l)[h.length+1+1+1+1+1+1]?=l[6]?:=BQ h l _ 6 AE
@[simp high] theorem YP (h l:List Row) (x:Row):(h++l).set (h.length+1+1+1+1+1+1) x=h++l.set 6 x:=Cd h l _ 6 x AE
@[simp high] theorem Yv (h l:List Row):(h++l)[h.length+6]?=l[6]?:=BQ h l _ 6 AE
@[simp high] theorem YO (h l:List Row) (x:Row):(h++l).set (h.length+6) x=h++l.set 6 x:=Cd h l _ 6 x AE
@[simp high] theorem Yu (h l:List Row):(h++l)[h.length+1+1+1+1+1+1+1]?=l[7]?:=BQ h l _ 7 AE
@[simp high] theorem YN (h l:List Row) (x:Row):(h++l).set (h.length+1+1+1+1+1+1+1) x=h++l.set 7 x:=Cd h l _ 7 x AE
@[simp high] theorem Yt (h l:List Row):(h++l)[h.length+7]?=l[7]?:=BQ h l _ 7 AE
@[simp high] theorem YM (h l:List Row) (x:Row):(h++l).set (h.length+7) x=h++l.set 7 x:=Cd h l _ 7 x AE
@[simp high] theorem Ys (h l:List Row):(h++l)[h.length+1+1+1+1+1+1+1+1]?=l[8]?:=BQ h l _ 8 AE
@[simp high] theorem YL (h l:List Row) (x:Row):(h++l).set (h.length+1+1+1+1+1+1+1+1) x=h++l.set 8 x:=Cd h l _ 8 x AE
@[simp high] theorem Yr (h l:List Row):(h++l)[h.length+8]?=l[8]?:=BQ h l _ 8 AE
@[simp high] theorem YK (h l:List Row) (x:Row):(h++l).set (h.length+8) x=h++l.set 8 x:=Cd h l _ 8 x AE
variable {s:St} {Q:AExit->St->Prop}
section
variable {P:Program} {GL:Ai}
def Ag{c:AC}(n:Nat)(I:Nat->St->Prop)(N:I 0 s)(h:∀k s,k<=n->I k s->awp P GL c (λe s'=>match e with| .normal=>k <n/\I (k+1) s'|e=>Q e s') s):awp P GL (.loop c) Q s:=by
 refine⟨λm s=>∃k,k<=n/\m=n-k/\I k s,⟨n,0,tB _,rfl,N⟩,?_⟩;rintro m s ⟨k,O,rfl,hi⟩;refine Ap c ?_ (h k s O hi);intro e s' h;cases e with
 |normal=>obtain⟨J,G⟩:=h;exact⟨n-(k+1),AE,k+1,J,rfl,G⟩
 |exit i=>exact h
 |ret=>exact h
end
def D2(l:List Ivl)(k:Nat):Bool:=
 match l[k]? with
 |none=>true
 |some x=> !ET x||(match k with|0=>false|j+1=>match l[j]? with|none=>true|some y=> !Jl (RY y) (RQ x))
def HT(l:List Ivl):Int:=if (List.range l.length).any (D2 l) then 1 else if l.length>32 then 4 else 0
variable {k n:Nat}
def EZ{f:Nat->Bool}(G:k <n)(h:f k=true):(List.range n).any f=true:=by rw[tX];exact⟨k,by simpa using G,h⟩
def F1{f:Nat->Bool}(h:∀k <n,f k=false):(List.range n).any f=false:=by rw[tD];intro k G;simpa using h k (by simpa using G)
def So{x:Ivl}(h:ET x=true):(RQ x).b/\(RY x).b:=by unfold ET at h;simp at h;exact⟨Yj h.1.1,Yn h.1.2⟩
theorem lg(l:List Ivl)(hl:∀x∈l,x.ok)(hn:l.length<=2^40):PX 246 [(l.map Ivl.V:V)] [((HT l:Int):V)]:=by
 refine BS 246 ?_;simp only[As 246,AH,AJ,AY,AB 246 0,AB 246 1,Ad];simp;refine Ag l.length (λk s=>s.e=[(0,(l.map Ivl.V:D)),(9,(l.map Ivl.V:D)),(10,(l.length:D)),(11,(k:D))]/\∀j <k,D2 l j=false) ⟨rfl,AE⟩ ?_;rintro k ⟨se,sh⟩ hk ⟨he,hg⟩;simp only at he;subst he;simp only[Zw,BG 246 0,AB 246 2];simp;by_cases J:k <l.length
 .obtain⟨x,hx⟩:∃x,l[k]?=some x:=⟨_,rW J⟩;have a1:=rY hx;have N:=Bt k;have p1:=(dh x (hl x a1)).fsp;rw[CF,AD];simp only[AB 246 3];simp[Ivl.V]at p1;simp[hx,Ivl.V,AQ,AB 246 4];refine⟨_,_,p1 _,?_⟩;simp;cases hgx:ET x with
  |false=>
   have G:D2 l k=true:=by unfold D2;rw[hx];simp[hgx]
   simp[AA,AB 246 5,AW 246];unfold HT;rw[EZ J G];rfl
  |true=>
   simp[AD,AB 246 6];cases k with
   |zero=>
    have G:D2 l 0=false:=by unfold D2;rw[hx];simp[hgx]
    simp[AB 246 11];simp at N;simp[N,J];exact G
   |succ j=>
    obtain⟨y,O⟩:∃y,l[j]?=some y:=⟨_,rW AE⟩;have U:ET y=true:=by have:=hg j AE;unfold D2 at this;rw[O]at this;simp at this;exact this.1
    have p2:=(Zo x).fsp;have p3:=(Zo y).fsp;have p4:=(dS (RY y) (RQ x) (So U).2 (So hgx).1).fsp;have Z:IntKind.i64.wrap (j:Int)=j:=AS AE AE;simp[Ivl.V,End.V]at p2 p3 p4;simp[AB 246 7];refine⟨_,_,p2 _,?_⟩;simp[AQ,AB 246 8,Z,O,Ivl.V];refine⟨_,_,p3 _,?_⟩;simp[AB 246 9];refine⟨_,_,p4 _,?_⟩;simp;cases hle:Jl (RY y) (RQ x)with
    |false=>
     have G:D2 l (j+1)=true:=by unfold D2;rw[hx];simp[hgx,O,hle]
     simp[AA,AB 246 10,AW 246];unfold HT;rw[EZ J G];rfl
    |true=>
     have G:D2 l (j+1)=false:=by unfold D2;rw[hx];simp[hgx,O,hle]
     simp at N;simp[AB 246 11,N,J];intro i hi;rcases sL i (j+1)with h|h
     .exact hg i h
     .have:i=j+1:=AE;subst this;exact G
 .have W:k=l.length:=AE;subst W;rw[Bj,AN];have p5:=(kW (l.map Ivl.V)).fsp;simp at p5;simp[AB 246 12];refine⟨_,_,p5 _,?_⟩;simp[AA,AW 246];unfold HT;rw[F1 hg];simp
end
def dJ(n d:Int)(O:i64 n)(h2:i64 d):PX 351 [BE n d] [.bool (B8 n d)]:=by
 refine BS 351 ?_;have G:=(Zy n d O h2).fsp;unfold B8;simp only[As 351,AH,AJ,AB 351 0,Ad];simp[BE]at G ⊢;simp[AB 351 1];refine⟨_,_,G _,?_⟩;cases Ef n d with
 |false=>simp[AA,AW 351]
 |true=>
  by_cases J: -1073741824<=n<;>by_cases N:n<=1073741824<;>simp[J,N,AA,AW 351]
def Vn(a b c d:Int):V.eqL [0,0] [(a:V),(b:V)] [(c:V),(d:V)]=some (decide (a=c/\b=d)):=by by_cases G:a=c<;>by_cases h2:b=d<;>simp[V.eqL,V.eq1,G,h2]
def Ivl.cells(x:Ivl):List D:=[.v (.int .i64 x.ln),.v (.int .i64 x.ld),.v (.int .i64 x.hn),.v (.int .i64 x.hd),.v (.bool x.lo),.v (.bool x.ho),.v (.bool x.li),.v (.bool x.hi)]
def fa(x:Ivl)(Q:AExit->St->Prop)(G:Q .normal ⟨[(1,.R 0 0),(30,.v (.bool ((x.li&&(!decide (x.ln=0/\x.ld=0)||x.lo))||(x.hi&&(!decide (x.hn=0/\x.hd=0)||x.ho)))))],[.cells x.cells]⟩):
  AX (.reg (oG 332 1) [1,30]) Q ⟨[(1,.R 0 0)],[.cells x.cells]⟩:=by
 obtain⟨U,ld,N,hd,lo,O,W,hi⟩:=x;rw[AX,AJ];simp only[Ivl.cells]at*;simp only[AB 332 1];have J:=Vn U ld 0 0;have e2:=Vn N hd 0 0;generalize decide (U=0/\ld=0)=A at*;generalize decide (N=0/\hd=0)=B at*;cases W with
 |false=>
  cases hi with
  |false=>simpa using G
  |true=>cases B<;>cases O<;>simp[e2]<;>simpa using G
 |true=>
  cases hi with
  |false=>cases A<;>cases lo<;>simp[J]<;>simpa using G
  |true=>cases A<;>cases B<;>cases lo<;>cases O<;>simp[J,e2]<;>simpa using G
def fZ(x:Ivl)(J G:Bool)(Q:AExit->St->Prop)(N:Q .normal ⟨[(1,.R 0 0),(52,.v (.bool ((!x.li&& !J)||(!x.hi&& !G))))],[.cells x.cells]⟩):
  AX (.reg (oG 332 5) [1,52]) Q ⟨[(1,.R 0 0),(3,(J:D)),(4,(G:D))],[.cells x.cells]⟩:=by
 obtain⟨Z,ld,U,hd,lo,W,O,hi⟩:=x;rw[AX,AJ];simp only[Ivl.cells]at*;simp only[AB 332 5];cases O<;>cases hi<;>cases J<;>cases G<;>simp<;>simpa using N
def E8(x:Ivl):Bool:=
 if (x.li&&(!decide (x.ln=0/\x.ld=0)||x.lo))||(x.hi&&(!decide (x.hn=0/\x.hd=0)||x.ho)) then false
 else if (!x.li&& !B8 x.ln x.ld)||(!x.hi&& !B8 x.hn x.hd) then false
 else if x.li||x.hi then true
 else if x.ln=x.hn/\x.ld=x.hd then !x.lo&& !x.ho
 else H9 x.ln x.ld x.hn x.hd
def dM(x:Ivl)(hx:x.ok):PX 332 [x.V] [.bool (E8 x)]:=by
 refine BS 332 ?_;have W:=(dJ x.ln x.ld hx.1 hx.2.1).fsp;have Z:=(dJ x.hn x.hd hx.2.2.1 hx.2.2.2).fsp;obtain⟨R,G⟩:∃R,E8 x=R:=⟨_,rfl⟩;rw[G];unfold E8 at G;rw[As 332];rw[AH,AJ];simp[AB 332 0,Ad,Ivl.V];rw[AH,AH];refine fa x _ ?_;generalize ((x.li&&(!decide (x.ln=0/\x.ld=0)||x.lo))||(x.hi&&(!decide (x.hn=0/\x.hd=0)||x.ho)))=g1 at*
 simp[AO];cases g1 with
 |true=>simp at G;simp[AH,AJ,AA,AB 332 2,AW 332,G]
 |false=>
  simp only[AD,if_neg vI]at G ⊢;rw[AH,AJ];simp[BE]at W Z;simp[AB 332 3,Ivl.cells];refine⟨_,_,W _,?_⟩;simp;rw[AH,AJ];simp[AB 332 4];refine⟨_,_,Z _,?_⟩;simp;rw[AH,AH];refine fZ x (B8 x.ln x.ld) (B8 x.hn x.hd) _ ?_;have N:((!x.li&& !B8 x.ln x.ld)||(!x.hi&& !B8 x.hn x.hd))=false->x.li=false->x.hi=false->Ef x.ln x.ld=true/\Ef x.hn x.hd=true:=by intro h h1 h2;rw[h1,h2]at h;simp[B8]at h;exact⟨h.1.1,h.2.1⟩
  generalize ((!x.li&& !B8 x.ln x.ld)||(!x.hi&& !B8 x.hn x.hd))=g2 at*
  simp[AO];cases g2 with
  |true=>simp at G;simp[AH,AJ,AA,AB 332 6,AW 332,G]
  |false=>
   simp only[AD,if_neg vI]at G ⊢;obtain⟨U,ld,O,hd,lo,ho,li,hi⟩:=x;simp only[Ivl.cells]at*;rw[AH,AH,AJ];cases li with
   |true=>simp at G;simp[AB 332 7,AO,AH,AJ,AA,AB 332 8,AW 332,G]
   |false=>
    cases hi with
    |true=>simp at G;simp[AB 332 7,AO,AH,AJ,AA,AB 332 8,AW 332,G]
    |false=>
     obtain⟨o1,o2⟩:=N trivial rfl rfl;have p3:=(W0 U ld O hd o1 o2).fsp;simp[BE]at p3;simp[AB 332 7,AO,AD];rw[AH,AH,AJ];simp[AB 332 9,Vn];by_cases J:U=O/\ld=hd
     .simp[J]at G;cases lo<;>cases ho<;>simp at G<;>simp[J,AO,AH,AJ,AA,AB 332 10,AW 332,G]
     .simp[J]at G;simp[J,AO,AD,AH,AJ,AB 332 11];refine⟨_,_,p3 _,?_⟩;simp[AA,AW 332,G]
section
def My(a b:Ivl):Bool:=
 if a.hi||b.li then false else if a.hn=b.ln/\a.hd=b.ld then a.ho&&b.lo else H9 a.hn a.hd b.ln b.ld
def Jt{x:Ivl}(h:E8 x=true)(hi:x.hi=false):B8 x.hn x.hd=true:=by
 unfold E8 at h;by_cases J:((x.li&&(!decide (x.ln=0/\x.ld=0)||x.lo))||(x.hi&&(!decide (x.hn=0/\x.hd=0)||x.ho)))=true
 .rw[if_pos J]at h;cases h
 .rw[if_neg J]at h;by_cases G:((!x.li&& !B8 x.ln x.ld)||(!x.hi&& !B8 x.hn x.hd))=true
  .rw[if_pos G]at h;cases h
  .rw[hi]at G;simp at G;exact G.2
def Js{x:Ivl}(h:E8 x=true)(hi:x.li=false):B8 x.ln x.ld=true:=by
 unfold E8 at h;by_cases J:((x.li&&(!decide (x.ln=0/\x.ld=0)||x.lo))||(x.hi&&(!decide (x.hn=0/\x.hd=0)||x.ho)))=true
 .rw[if_pos J]at h;cases h
 .rw[if_neg J]at h;by_cases G:((!x.li&& !B8 x.ln x.ld)||(!x.hi&& !B8 x.hn x.hd))=true
  .rw[if_pos G]at h;cases h
  .rw[hi]at G;simp at G;exact G.1
def DA{n d:Int}(h:B8 n d=true):Ef n d=true:=by unfold B8 at h;simp at h;exact h.1
def jx(x y:Ivl)(gx:E8 x=true)(gy:E8 y=true):PX 353 [x.V,y.V] [.bool (My x y)]:=by
 refine BS 353 ?_;have q1:=Jt gx;have q2:=Js gy;obtain⟨R,G⟩:∃R,My x y=R:=⟨_,rfl⟩;rw[G];unfold My at G;obtain⟨ln,ld,W,hd,lo,ho,li,hi⟩:=x;obtain⟨N,J,a6,a1,a8,a7,U,a2⟩:=y;simp only[Ivl.V]at*;rw[As 353];rw[AH,AJ];simp[AB 353 0,Ad];rw[AH,AH,AJ];cases hi with
 |true=>simp at G;simp[AB 353 1,AO,AH,AJ,AA,AB 353 2,AW 353,G]
 |false=>
  cases U with
  |true=>simp at G;simp[AB 353 1,AO,AH,AJ,AA,AB 353 2,AW 353,G]
  |false=>
   have Z:=(W0 W hd N J (DA (q1 rfl)) (DA (q2 rfl))).fsp;simp[BE]at Z;simp[AB 353 1,AO,AD];rw[AH,AH,AJ];simp[AB 353 3,Vn];by_cases O:W=N/\hd=J
   .simp[O]at G;cases ho<;>simp at G<;>simp[O,AO,AH,AJ,AA,AB 353 4,AW 353,G]
   .simp[O]at G;simp[O,AO,AD,AH,AJ,AB 353 5];refine⟨_,_,Z _,?_⟩;simp[AA,AW 353,G]
def N6{b a d:Int}(hc:Int.gcd b a=1)(N:b ∣ a*d):b ∣ d:=by
 have G:b.natAbs ∣ a.natAbs*d.natAbs:=by rw[<-Int.natAbs_mul];exact Int.natAbs_dvd_natAbs.2 N
 have J:Nat.Coprime b.natAbs a.natAbs:=hc;exact Int.natAbs_dvd_natAbs.1 (J.dvd_of_dvd_mul_left G)
variable {c:Int}
def MC{a b d:Int}(G:Ef a b=true)(h2:Ef c d=true)(h:a*d=c*b):a=c/\b=d:=by
 unfold Ef at G h2;simp at G h2;obtain⟨Z,_,_,_,U⟩:=G;obtain⟨d1,_,_,_,W⟩:=h2;have N:b ∣ d:=by
  have J:b ∣ a*d:=by rw[h];exact Int.dvd_mul_left _ _
  have:Int.gcd b a=1:=by rw[Int.gcd_comm];exact U
  exact N6 this J
 have e2:d ∣ b:=by
  have J:d ∣ c*b:=by rw[<-h];exact Int.dvd_mul_left _ _
  have:Int.gcd d c=1:=by rw[Int.gcd_comm];exact W
  exact N6 this J
 have O:b=d:=by have:=Int.le_of_dvd AE N;have:=Int.le_of_dvd AE e2;omega
 subst O;exact⟨Int.eq_of_mul_eq_mul_right AE h,rfl⟩
def Gi(x:Ivl):E8 x=ET x:=by
 obtain⟨N,ld,J,hd,lo,O,U,hi⟩:=x;unfold ET E8 NF;cases U<;>cases hi<;>simp only[RQ,RY,Jl]
 .cases hs1:B8 N ld<;>cases hs2:B8 J hd<;>simp
  have r:=MC (DA hs1) (DA hs2);by_cases G:N=J/\ld=hd
  .obtain⟨rfl,rfl⟩:=G;simp
  .rw[if_neg G];rw[if_neg (λh=>G (r h))];rfl
 .generalize hA:decide (J=0/\hd=0)=A;cases A<;>cases O<;>cases B8 N ld<;>simp
 .simp
 .simp
def Ry(x y:Ivl)(Z:E8 x=true)(gy:E8 y=true):My x y=Jl (RY x) (RQ y):=by
 have U:=Jt Z;have W:=Js gy;obtain⟨ln,ld,hn,hd,lo,ho,li,hi⟩:=x;obtain⟨O,J,a6,a1,a8,a7,N,a2⟩:=y;unfold My;cases hi<;>cases N<;>simp only[RQ,RY,Jl]
 .simp at U W;have r:=MC (DA U) (DA W);by_cases G:hn=O/\hd=J
  .obtain⟨rfl,rfl⟩:=G;simp
  .simp;rw[if_neg G,if_neg (λh=>G (r h))];rfl
 .simp
 .simp
 .simp
def j9(l:List Ivl)(hl:∀x∈l,x.ok)(hn:l.length<=2^40):PX 338 [(l.map Ivl.V:V)] [((HT l:Int):V)]:=by
 refine BS 338 ?_;simp only[As 338,AH,AJ,AY,AB 338 0,AB 338 1,Ad];simp;refine Aw l.length (λk=>⟨[(0,(l.map Ivl.V:D)),(3,(k:D))],[]⟩) (λk=>∀j <k,D2 l j=false) Ac AE ?_;intro k hk hg;simp only[Zw,BG 338 0,AB 338 2];simp;by_cases J:k <l.length
 .obtain⟨x,hx⟩:∃x,l[k]?=some x:=⟨_,rW J⟩;have a2:=rY hx;have O:=Bt k;have p1:=(dM x (hl x a2)).fsp;rw[CF,AD];simp only[AB 338 4];simp[Ivl.V]at p1;simp[hx,Ivl.V];refine⟨_,_,p1 _,?_⟩;simp only[Aa,AB 338 5];simp;cases hgx:E8 x with
  |false=>
   have G:D2 l k=true:=by unfold D2;rw[hx];simp[<-Gi,hgx]
   simp[AA,AB 338 6,AW 338];unfold HT;rw[EZ J G];rfl
  |true=>
   cases k with
   |zero=>
    have G:D2 l 0=false:=by unfold D2;rw[hx];simp[<-Gi,hgx]
    simp at O;simp[AD,AB 338 3,O,J];exact G
   |succ j=>
    obtain⟨y,U⟩:∃y,l[j]?=some y:=⟨_,rW AE⟩;have N:E8 y=true:=by have:=hg j AE;unfold D2 at this;rw[U]at this;simp at this;rw[Gi];exact this.1
    have p2:=jx y x N hgx;rw[Ry y x N hgx]at p2;have a1:IntKind.i64.wrap (j:Int)=j:=AS AE AE;simp[Ivl.V]at p2;have h9:(0:Int) <(j:Int)+1:=AE;have W:(0:Int)<=(j:Int)+1:=AE;simp[a1,U,Ivl.V,hx,W];refine⟨_,_,⟨rfl,rfl⟩,_,p2,?_⟩;simp;cases hle:Jl (RY y) (RQ x)with
    |false=>
     have G:D2 l (j+1)=true:=by unfold D2;rw[hx];simp[U,hle]
     simp[AA,AB 338 6,AW 338];unfold HT;rw[EZ J G];rfl
    |true=>
     have G:D2 l (j+1)=false:=by unfold D2;rw[hx];simp[<-Gi,hgx,U,hle]
     simp at O;simp[AD,AB 338 3,O,J];intro i hi;rcases sL i (j+1)with h|h
     .exact hg i h
     .have:i=j+1:=AE;subst this;exact G
 .have Z:k=l.length:=AE;subst Z;rw[Bj,AN];simp only[AB 338 7];unfold HT;rw[F1 hg];by_cases h:32 <(l.length:Int)
  .have h':32 <l.length:=AE;simp[h,h',AA,AB 338 8,AW 338]
  .have h':¬32 <l.length:=AE;simp[h,h',AD,AA,AB 338 9,AW 338]
end
inductive F where
 |mk (op n:Int) (ins:List Ivl) (kids:List F)
def F.op:F->Int| .mk o _ _ _=>o
def F.n:F->Int| .mk _ n _ _=>n
def F.ins:F->List Ivl| .mk _ _ i _=>i
def F.kids:F->List F| .mk _ _ _ k=>k
def F.ind{p:F->Prop}(h:∀op n ins kids,(∀k∈kids,p k)->p (.mk op n ins kids))(f:F):p f:=
 F.rec (motive_1:=p) (motive_2:=λl=>∀k∈l,p k) (λop n ins kids N=>h op n ins kids N) (λk G=>by cases G)
  (λx xs hx J k G=>by cases G with|head=>exact hx|tail _ G=>exact J k G) f
mutual
def F.V:F->V| .mk op n ins kids=> .agg [.int .i64 op,.int .i64 n,.list (ins.map Ivl.V),.list (F.Vs kids)]
def F.Vs:List F->List V|[]=>[]|k::ks=>k.V::F.Vs ks
end
def F.Vs_map:∀l,F.Vs l=l.map F.V
 |[]=>rfl
 |k::ks=>by simp[F.Vs,F.Vs_map ks]
mutual
def F.nodes:F->List F| .mk op n ins kids=> .mk op n ins kids::F.nodess kids
def F.nodess:List F->List F|[]=>[]|k::ks=>k.nodes++F.nodess ks
end
def F.nodess_map:∀l,F.nodess l=l.flatMap F.nodes
 |[]=>rfl
 |k::ks=>by simp[F.nodess,F.nodess_map ks]
def F.size(f:F):Nat:=f.nodes.length
mutual
def F.depth:F->Nat| .mk _ _ _ kids=>F.depths kids+1
def F.depths:List F->Nat|[]=>0|k::ks=>max k.depth (F.depths ks)
end
def F.size_eq(op n:Int)(ins:List Ivl)(kids:List F):(F.mk op n ins kids).size=1+(kids.map F.size).sum:=by unfold F.size;simp only[F.nodes,sF,F.nodess_map,s8];have e:(λf:F=>f.size)=λf=>f.nodes.length:=rfl;rw[Nat.add_comm]
def F.kid_size{f:F}{kids:List F}(h:f∈kids):f.size<=(kids.map F.size).sum:=by
 induction kids with
 |nil=>cases h
 |cons k ks ih=>
  simp only[rq,tV];cases h with
  |head=>omega
  |tail _ h=>have:=ih h;omega
def F.size_pos(f:F):1<=f.size:=by cases f;rw[F.size_eq];omega
def F.kids_len(kids:List F):kids.length<=(kids.map F.size).sum:=by
 induction kids with
 |nil=>simp
 |cons k ks ih=>have:=k.size_pos;simp only[rq,tV,sF];omega
def F.nodes_eq(op n:Int)(ins:List Ivl)(kids:List F):(F.mk op n ins kids).nodes= .mk op n ins kids::kids.flatMap F.nodes:=by simp[F.nodes,F.nodess_map]
def F.V_eq(op n:Int)(ins:List Ivl)(kids:List F):(F.mk op n ins kids).V= .agg [.int .i64 op,.int .i64 n,.list (ins.map Ivl.V),.list (kids.map F.V)]:=by simp[F.V,F.Vs_map]
def F.depth_le:∀f:F,f.depth<=f.size:=by
 refine F.ind λop n ins kids G=>?_;rw[F.size_eq,F.depth];have:F.depths kids<=(kids.map F.size).sum:=by
  induction kids with
  |nil=>simp[F.depths]
  |cons k ks ihk=>
   have J:=G k Ac;have h2:=ihk λx hx=>G x (by simp[hx]);simp only[F.depths,rq,tV];omega
 omega
def F.ok1(f:F):Prop:=i64 f.op/\i64 f.n/\(∀x∈f.ins,x.ok)/\f.ins.length<=2^40
def F.ok(f:F):Prop:=(∀g∈f.nodes,g.ok1)/\f.size<=2^40
def F.ok_kid{op n:Int}{ins:List Ivl}{kids:List F}(h:(F.mk op n ins kids).ok){k:F}(G:k∈kids):k.ok:=by
 refine⟨λg hg=>h.1 g ?_,?_⟩
 .rw[F.nodes_eq];exact th _ (sj.2 ⟨k,G,hg⟩)
 .have:=h.2;rw[F.size_eq]at this;have:=F.kid_size G;omega
def BC(f:F):Bool:=
 if (f.op≠2/\0 <f.ins.length)\/(f.op≠2/\f.op≠1/\f.n≠0) then false
 else if f.op=0 then f.kids.length==0
 else if f.op=1 then decide (f.kids.length=0/\0<=f.n/\f.n <64)
 else if f.op=2 then decide (f.kids.length=0/\0<=f.n/\f.n <32/\HT f.ins=0)
 else if f.op=3\/f.op=6 then f.kids.length==1
 else decide (f.op=4\/f.op=5)
def A6(f:F):Int:=if f.size>96\/f.depth>8 then 4 else if f.nodes.all BC then 0 else 1
section
def F.cells(f:F):List D:=[.v (.int .i64 f.op),.v (.int .i64 f.n),.v (.list (f.ins.map Ivl.V)),.v (.list (f.kids.map F.V))]
def F.ok1_self{f:F}(h:f.ok):f.ok1:=h.1 f (by cases f;rw[F.nodes_eq];exact uY)
variable {k:Nat}
def Ua{l:List F}{x:F}(hx:l[k]?=some x)(f:F->Nat):((l.map f).take (k+1)).sum=((l.map f).take k).sum+f x:=by rw[rx,rk,hx];simp
def Pk(l:List F)(k:Nat)(f:F->Nat):((l.map f).take k).sum<=(l.map f).sum:=by have:=congrArg (λl=>l.sum) (sa k (l.map f));simp only[List.sum_append]at this;omega
def OR{l:List F}{f:F->Nat}:(l.map f).take l.length=l.map f:=sN Ac
theorem kr:∀f:F,f.ok->PX 285 [f.V] [(f.size:V)]:=by
 refine F.ind λop n ins kids ih G=>?_;refine BS 285 ?_;have O:=G.2;rw[F.size_eq]at O ⊢;have a1:=F.kids_len kids;simp only[As 285,AH,AJ,AY,AB 285 0,AB 285 1,AB 285 2,Ad];simp[F.V_eq];refine Ab kids.length (λk=>⟨[(1,.R 0 0),(3,((1+((kids.map F.size).take k).sum:Nat):D)),(4,(k:D))],[.cells (F.mk op n ins kids).cells]⟩) (by simp[F.cells,F.op,F.n,F.ins,F.kids]) ?_;intro k hk;simp only[Zw,BG 285 0,AB 285 3,F.cells,F.op,F.n,F.ins,F.kids];simp;by_cases W:k <kids.length
 .obtain⟨x,hx⟩:∃x,kids[k]?=some x:=⟨_,rW W⟩;have J:=rY hx;have hw:=Bt k;have Z:=(ih x J (F.ok_kid G J)).fsp;have ht:=Ua hx F.size;have a2:=Pk kids (k+1) F.size;have U:IntKind.i64.wrap (1+(((kids.map F.size).take k).sum:Int)+x.size)=1+(((kids.map F.size).take (k+1)).sum:Int):=by rw[AS AE AE];omega
  rw[CF,AD];simp only[AB 285 4,AB 285 5];obtain⟨xo,xn,xi,xk⟩:=x;simp[F.V_eq]at Z;simp[hx,F.V_eq];refine⟨_,_,Z _,?_⟩;simp[hw,U,W]
 .have N:k=kids.length:=AE;subst N;rw[Bj,AN];simp[AA,AB 285 6,AW 285,OR]
def LK{l:List F}{x:F}(hx:l[k]?=some x):F.depths (l.take (k+1))=max (F.depths (l.take k)) x.depth:=by
 induction l generalizing k with
 |nil=>simp at hx
 |cons y l ih=>
  cases k with
  |zero=>simp at hx;subst hx;simp[F.depths]
  |succ k=>simp at hx;simp only[vG,F.depths,ih hx];omega
theorem N7(l:List F):F.depths l<=(l.map F.size).sum:=by
 induction l with
 |nil=>simp[F.depths]
 |cons k ks ih=>have:=F.depth_le k;simp only[F.depths,rq,tV];omega
theorem km:∀f:F,f.ok->PX 286 [f.V] [(f.depth:V)]:=by
 refine F.ind λop n ins kids ih G=>?_;refine BS 286 ?_;have O:=G.2;rw[F.size_eq]at O;have a2:=F.kids_len kids;have a1:=N7 kids;simp only[As 286,AH,AJ,AY,AB 286 0,AB 286 1,AB 286 2,Ad];simp[F.V_eq];refine Ab kids.length (λk=>⟨[(1,.R 0 0),(3,((F.depths (kids.take k):Int):D)),(4,(k:D))],[.cells (F.mk op n ins kids).cells]⟩) (by simp[F.cells,F.op,F.n,F.ins,F.kids,F.depths]) ?_;intro k hk;simp only[Zw,BG 286 0,AB 286 3,F.cells,F.op,F.n,F.ins,F.kids];simp;by_cases W:k <kids.length
 .obtain⟨x,hx⟩:∃x,kids[k]?=some x:=⟨_,rW W⟩;have J:=rY hx;have hw:=Bt k;have Z:=(ih x J (F.ok_kid G J)).fsp;have ht:=LK hx;rw[CF,AD];simp only[AB 286 4,AB 286 5];obtain⟨xo,xn,xi,xk⟩:=x;simp[F.V_eq]at Z;simp[hx,F.V_eq];refine⟨_,_,Z _,?_⟩;simp[hw,W,ht];split<;>omega
 .have N:k=kids.length:=AE;subst N;rw[Bj,AN];have U:IntKind.i64.wrap ((F.depths kids:Int)+1)=F.depths kids+1:=AS AE AE;simp[AA,AB 286 6,AW 286,U,F.depth]
end
def SZ(n:Nat):((n:Int)==0)=(n==0):=by rw[tC];simp
def Ll(n:Nat):((n:Int)==1)=(n==1):=by rw[tC];simp;omega
def La(f:F):Bool:=decide ((f.op≠2/\0 <f.ins.length)\/(f.op≠2/\f.op≠1/\f.n≠0))
theorem ff(f:F)(Q:AExit->St->Prop)(J:Q .normal ⟨[(1,.R 0 0),(26,.v (.bool (La f)))],[.cells f.cells]⟩):
  AX (.reg (oG 322 1) [1,26]) Q ⟨[(1,.R 0 0)],[.cells f.cells]⟩:=by
 obtain⟨B,G⟩:∃B,La f=B:=⟨_,rfl⟩;rw[G]at J;obtain⟨op,n,ins,kids⟩:=f;simp only[F.cells,La,F.op,F.n,F.ins,F.kids]at*;rw[AX,AJ];simp only[AB 322 1];by_cases h2:op=2
 .subst h2;simp at G;subst G;simpa using J
 .by_cases hl:0 <ins.length
  .have O:0 <(ins.length:Int):=AE;simp[h2,hl]at G;subst G;simp[h2,hl];exact J
  .have O:¬0 <(ins.length:Int):=AE;have U:ins=[]:=by cases ins<;>simp_all
   subst U;by_cases N:op=1
   .subst N;simp at G;subst G;simpa using J
   .by_cases W:n=0
    .subst W;simp at G;subst G;simp[h2,N];exact J
    .have Z:(n != 0)=true:=by simpa using W
     simp[h2,N,W]at G;subst G;simp[h2,N,Z];exact J
def LF{f:F}(h:La f=true):BC f=false:=by unfold BC;unfold La at h;rw[if_pos (of_decide_eq_true h)]
def Ju{f:F}(h:La f=false):BC f=if f.op=0 then f.kids.length==0
 else if f.op=1 then decide (f.kids.length=0/\0<=f.n/\f.n <64)
 else if f.op=2 then decide (f.kids.length=0/\0<=f.n/\f.n <32/\HT f.ins=0)
 else if f.op=3\/f.op=6 then f.kids.length==1
 else decide (f.op=4\/f.op=5):=by
 unfold BC;unfold La at h;rw[if_neg (of_decide_eq_false h)]
def kJ(f:F)(hf:f.ok1):PX 322 [f.V] [.bool (BC f)]:=by
 refine BS 322 ?_;obtain⟨R,G⟩:∃R,BC f=R:=⟨_,rfl⟩;rw[G];have hp:=(j9 f.ins hf.2.2.1 hf.2.2.2).fsp;rw[As 322];rw[AH,AJ];obtain⟨op,n,ins,kids⟩:=f;simp only[F.V_eq,F.ins]at*;simp[AB 322 0,Ad];rw[AH,AH];have ha:=ff ⟨op,n,ins,kids⟩;simp only[F.cells,F.op,F.n,F.ins,F.kids]at ha;refine ha _ ?_;simp[AO];cases ho:La ⟨op,n,ins,kids⟩with
 |true=>
  rw[LF ho]at G;simp[AH,AJ,AA,AB 322 2,AW 322,G]
 |false=>
  rw[Ju ho]at G;simp only[F.op,F.n,F.ins,F.kids]at G;simp only[AD,if_neg vI];simp only[Zw,AB 322 3,AB 322 4];simp;by_cases W:op=0
  .subst W;simp at G;simp[AA,AB 322 5,AW 322,SZ,G]
  .simp only[W,if_false]at G;simp[W,AB 322 6];by_cases Z:op=1
   .subst Z;simp at G;simp[AA,AB 322 7];by_cases U:kids.length=0
    .have J:kids=[]:=uw.1 U;subst J;by_cases N:0<=n<;>by_cases O:n <64<;>simp[N,O]at G<;>simp[N,O,AW 322,G]
    .have J:¬kids=[]:=λh=>U (by rw[h];rfl);simp[J]at G;simp[J,AW 322,G]
   .simp only[Z,if_false]at G;simp[Z,AB 322 8];by_cases h2:op=2
    .subst h2;simp at G;simp[AA,AB 322 9];by_cases U:kids.length=0
     .have J:kids=[]:=uw.1 U;subst J;by_cases N:0<=n<;>by_cases O:n <32<;>simp[N,O]at G<;>simp[N,O,AW 322,G]
      refine⟨_,_,hp _,?_⟩;simp;rw[<-G,tC];simp
     .have J:¬kids=[]:=λh=>U (by rw[h];rfl);simp[J]at G;simp[J,AW 322,G]
    .simp only[h2,if_false]at G;simp[h2,AB 322 10];by_cases h3:op=3
     .subst h3;simp at G;simp[AD,AA,AB 322 12,AW 322,Ll,G]
     .simp[h3,AD,AB 322 11];by_cases h6:op=6
      .subst h6;simp at G;simp[AA,AB 322 12,AW 322,Ll,G]
      .simp[h3,h6]at G;simp[h6,AA,AB 322 13];by_cases h4:op=4<;>by_cases h5:op=5<;>simp[h4,h5]at G<;>simp[h4,h5,AW 322,G]
def Eh(f:F):Bool:=f.nodes.all BC
def NS(op n:Int)(ins:List Ivl)(kids:List F):Eh (.mk op n ins kids)=(BC (.mk op n ins kids)&&kids.all Eh):=by unfold Eh;rw[F.nodes_eq,tz,List.all_flatMap]
def kj:∀f:F,f.ok->PX 287 [f.V] [.bool (Eh f)]:=by
 refine F.ind λop n ins kids ih J=>?_;refine BS 287 ?_;obtain⟨R,G⟩:∃R,Eh (.mk op n ins kids)=R:=⟨_,rfl⟩;rw[G];rw[NS]at G;have Z:=J.2;rw[F.size_eq]at Z;have a1:=F.kids_len kids;have hp:=(kJ _ (F.ok1_self J)).fsp;generalize BC (.mk op n ins kids)=fm at*;simp only[Zw,As 287,AB 287 0,AB 287 1,Ad];simp[F.V_eq]at hp ⊢;refine⟨_,_,hp _,?_⟩;cases fm with
 |false=>simp at G;simp[AA,AB 287 2,AW 287,G]
 |true=>
  simp only[sV]at G;simp[AD,AB 287 3];refine Aw kids.length (λk=>⟨[(1,.R 0 0),(3,(k:D))],[.cells (F.mk op n ins kids).cells]⟩) (λk=>∀x∈kids.take k,Eh x=true) (by simp[F.cells,F.op,F.n,F.ins,F.kids]) Ac ?_;intro k hk hI;simp only[Zw,BG 287 0,AB 287 4,F.cells,F.op,F.n,F.ins,F.kids];simp;by_cases h1:k <kids.length
  .obtain⟨x,hx⟩:∃x,kids[k]?=some x:=⟨_,rW h1⟩;have N:=rY hx;have hw:=Bt k;have U:=(ih x N (F.ok_kid J N)).fsp;rw[CF,AD];simp only[AB 287 6];cases hwx:Eh x with
   |false=>
    have:kids.all Eh=false:=by rw[List.all_eq_false];exact⟨x,N,by simp[hwx]⟩
    rw[this]at G;obtain⟨xo,xn,xi,xk⟩:=x;simp[F.V_eq,hwx]at U;simp[hx,F.V_eq];refine⟨_,_,U _,?_⟩;simp[AA,AB 287 7,AW 287,G]
   |true=>
    have ht:∀y∈kids.take (k+1),Eh y=true:=by
     rw[rx,hx];intro y O;simp at O;rcases O with O|rfl
     .exact hI y O
     .exact hwx
    obtain⟨xo,xn,xi,xk⟩:=x;simp[F.V_eq,hwx]at U;simp[hx,F.V_eq];refine⟨_,_,U _,?_⟩;simp[AD,AB 287 5,hw,h1];exact ht
  .have W:k=kids.length:=AE;subst W;rw[Bj,AN];have:kids.all Eh=true:=by rw[ry];simpa using hI
   rw[this]at G;simp[AA,AB 287 8,AW 287,G]
def W5(f:F)(O:f.ok):PX 214 [f.V] [((A6 f:Int):V)]:=by
 refine BS 214 ?_;obtain⟨R,G⟩:∃R,A6 f=R:=⟨_,rfl⟩;rw[G];unfold A6 at G;have e:f.nodes.all BC=Eh f:=rfl;rw[e]at G;have Z:=(kr f O).fsp;have h2:=(km f O).fsp;have h3:=(kj f O).fsp;obtain⟨op,n,ins,kids⟩:=f;simp only[As 214,AH,AJ,AO,AB 214 0,AB 214 1,Ad];simp[F.V_eq]at Z h2 h3 ⊢;refine⟨_,_,Z _,?_⟩;generalize F.size (.mk op n ins kids)=sz at*;generalize F.depth (.mk op n ins kids)=dp at*;by_cases U:96 <sz
 .have J:96 <(sz:Int):=AE;simp[U]at G;simp[J,AA,AB 214 2,AW 214,G]
 .have J:¬96 <(sz:Int):=AE;simp[J];refine⟨_,_,h2 _,?_⟩;by_cases W:8 <dp
  .have N:8 <(dp:Int):=AE;simp[W]at G;simp[N,AA,AB 214 2,AW 214,G]
  .have N:¬8 <(dp:Int):=AE;simp[U,W]at G;simp[N,AD,AB 214 3];refine⟨_,_,h3 _,?_⟩;cases hw:Eh (.mk op n ins kids)with
   |false=>simp[hw]at G;simp[AA,AB 214 4,AW 214,G]
   |true=>simp[hw]at G;simp[AA,AB 214 5,AW 214,G]
section
def IdxR(P:Program)(GL:Ai)(fid:Nat)(caps:List D):List V->List Row->Option Nat->List Row->Prop
 |[],h,r,h'=>r=none/\h'=h
 |x::xs,h,r,h'=>∃b h1,FSp P GL fid (.v x::caps) h [.v (.bool b)] h1/\if b then r=some 0/\h'=h1 else ∃r',IdxR P GL fid caps xs h1 r' h'/\r=r'.map (· +1)
def Em:Option Nat->Int
 |none=> -1
 |some k=>k
def DG{α:Type}(p:α->Bool)(xs:List α):(xs.findIdx? p).isSome=xs.any p:=by
 induction xs with
 |nil=>rfl
 |cons x xs ih=>
  cases hx:p x with
  |true=>simp[tO,hx]
  |false=>simp only[tO,hx,List.any_cons,Bool.false_or,rz,if_false,Option.isSome_map];exact ih
def Sn(r:Option Nat):(0<=Em r)↔r.isSome=true:=by
 cases r with
 |none=>simp[Em]
 |some k=>simp[Em]
structure FV (fd:D) (fid:Nat) (caps:List D):Prop where
 cp:fd.copy=fd
 fn:Dn fd=some (fid,caps)
 nm:fd.norm=fd
 ny:∀r,fd≠ .yld r
 nt:∀a b,fd≠ .meth a b
theorem FV.v(fid:Nat)(vs:List V):FV (.v (.func fid vs)) fid (vs.map .v):=⟨rfl,rfl,rfl,(λ_ h=>by cases h),(λ_ _ h=>by cases h)⟩
theorem FV.r(fid r o:Nat)(caps:List D):FV (.func fid (.R r o::caps)) fid (.R r o::caps):=by
 have e:D.norm (.func fid (.R r o::caps))= .func fid (.R r o::caps):=by simp[D.norm,D.vs?,D.v?]
 exact⟨rfl,by unfold Dn;rw[e],e,(λ_ h=>by cases h),(λ_ _ h=>by cases h)⟩
def py(s:Nat):Bool->V->Prop
 |true,x=>∃cs,x= .agg cs/\cs.length=s
 |false,x=>s=1/\∃n,x= .int .i64 n
theorem qx(s:Nat)(g:Bool)(fd:D)(fid:Nat)(caps:List D)(N:FV fd fid caps)(all:List V)(m:Nat)(a6:all.length=m)(b0:m <2^40)(Q:AExit->St->Prop):∀(xs:List V)(k:Nat)(h:List Row)(r:Option Nat)(h':List Row),all.drop k=xs->k<=m->(∀x∈xs,py s g x)->IdxR Tryz.prog BK fid caps xs h r h'->
  (r=none->∀e,AK e 0=(all:D)->Q (.exit 0) ⟨e,h'⟩)->(∀j,r=some j->∀e,AK e 4=(((k+j:Nat):Int):D)->Q .ret ⟨e,h'⟩)->
  AX (.loop (T1 s g)) Q ⟨[(0,(all:D)),(1,fd),(7,(m:D)),(8,(k:D))],h⟩:=by
 have b1:=N.nm;have Z:=N.cp;have J:=N.cp;simp only[D.copy]at J;intro xs;induction xs with
 |nil=>
  rintro k h r h' hd hk hc ⟨rfl,rfl⟩ hn hs;have h0:m<=k:=by rw[<-a6];exact vU.1 hd
  refine Av ?_;simp only[T1,AH,AJ,AY,AO,Xr];have h2:¬(k:Int) <m:=AE;simp[h2,AN];exact hn rfl _ rfl
 |cons x xs ih=>
  rintro k h r h' hd hk hc ⟨b,U,hb,hr⟩ hn hs;have hx:all[k]?=some x:=by have:=congrArg (·[0]?) hd;simpa using this
  have b2:k <m:=by rw[<-a6];exact(rZ.1 hx).1
  have a7:all.drop (k+1)=xs:=by have:=congrArg (List.drop 1) hd;simpa using this
  have hw:IntKind.i64.wrap ((k:Int)+1)=k+1:=AS AE AE;have O:(k:Int) <m:=AE;have a2:=hc x Ac;have step:AX (T1 s g) (λe s'=>match e with| .normal=>b=false/\s'=⟨[(0,(all:D)),(1,fd),(7,(m:D)),(8,((k+1:Nat):D))],U⟩| .ret=>b=true/\AK s'.e 4=(k:D)/\s'.h=U| .exit _=>False) ⟨[(0,(all:D)),(1,fd),(7,(m:D)),(8,(k:D))],h⟩:=by
   cases g with
   |true=>
    obtain⟨cs,rfl,a1⟩:=a2;simp only[T1,AH,AJ,AY,AO,Xr];simp[O,AD,bQ,bP,hx,J,-Bo,a1];have G:∀(K:St->Prop)(e:CC),AK e 11=fd->AK e 15= .v (.agg cs)->K ⟨CL e (some 16) (b:D),U⟩->Bo Tryz.prog BK (some 16) (.t 11 false) [.t 15 false] K ⟨e,h⟩:=by
     intro K e W e2 hK;unfold Bo;have e3:(Opd.t 11 false).ev e=fd:=by simp only[Opd.ev,rz,if_false,W,Z]
     rw[e3];split
     .rename_i q;exact absurd rfl (N.ny _)
     .rename_i q;exact absurd rfl (N.nt _ _)
     .rw[N.fn];refine⟨[(b:D)],U,?_,hK⟩;simpa[e2]using hb
    refine G _ _ ?_ ?_ ?_
    .simp
    .simp[sN (Nat.le_of_eq a1)]
    cases b with
    |false=>simp[bM,hw]
    |true=>simp[AA,bN]
   |false=>
    obtain⟨rfl,y,rfl⟩:=a2;simp only[T1,AH,AJ,AY,AO,Xr];simp[O,AD,bQ,bP,hx,J,-Bo];have G:∀(K:St->Prop)(e:CC),AK e 11=fd->AK e 15=(y:D)->K ⟨CL e (some 16) (b:D),U⟩->Bo Tryz.prog BK (some 16) (.t 11 false) [.t 15 false] K ⟨e,h⟩:=by
     intro K e W e2 hK;unfold Bo;have e3:(Opd.t 11 false).ev e=fd:=by simp only[Opd.ev,rz,if_false,W,Z]
     rw[e3];split
     .rename_i q;exact absurd rfl (N.ny _)
     .rename_i q;exact absurd rfl (N.nt _ _)
     .rw[N.fn];refine⟨[(b:D)],U,?_,hK⟩;simpa[e2]using hb
    refine G _ _ ?_ ?_ ?_
    .simp
    .simp
    cases b with
    |false=>simp[bM,hw]
    |true=>simp[AA,bN]
  cases b with
  |false=>
   obtain⟨r',a8,rfl⟩:=hr;refine Bu (Ap _ ?_ step) (ih (k+1) U r' h' a7 AE (λy hy=>hc y (by simp[hy])) a8 (λe=>hn (by rw[e];rfl)) ?_)
   .intro e s' h;cases e with
    |normal=>exact h.2
    |exit i=>exact h.elim
    |ret=>cases h.1
   .intro j e W e2;refine hs (j+1) (by rw[e];rfl) W ?_;rw[e2];congr 3;omega
  |true=>
   obtain⟨rfl,rfl⟩:=hr;refine Av (Ap _ ?_ step);intro e s' h;cases e with
   |normal=>cases h.1
   |exit i=>exact h.elim
   |ret=>obtain⟨_,h2,h3⟩:=h;have:=hs 0 rfl s'.e h2;rw[<-h3]at this;exact this
variable {h h':List Row} {n:Nat}
def pI{s:Nat}{g:Bool}(U:DD Tryz.prog BK n 2 (cI s g) NK=true)(fd:D)(fid:Nat)(caps:List D)(O:FV fd fid caps)(xs:List V)(G:xs.length <2^40)(hc:∀x∈xs,py s g x){r:Option Nat}(W:IdxR Tryz.prog BK fid caps xs h r h'):
  FX n [xs,fd] h [((Em r:Int):D)] h':=by
 refine JA U rfl ?_;have J:=O.cp;simp only[D.copy]at J;simp only[cI,AH,AJ,AY,iZ,iY,AZ];simp;refine qx s g fd fid caps O xs xs.length rfl G _ xs 0 h r h' rfl (tB _) hc W ?_ ?_
 .rintro rfl e N;simp[AA,iX,NK,Em]
 .rintro j rfl e N;simp at N;simp[N,NK,Em]
variable {f:Nat}
def pJ(U:DD Tryz.prog BK n 2 (cJ f) NK=true)(fd:D)(fid:Nat)(caps:List D)(O:FV fd fid caps)(xs:List V){r:Option Nat}(W:FX f [xs,fd] h [((Em r:Int):D)] h'):
  FX n [xs,fd] h [(r.isSome:D)] h':=by
 refine JA U rfl ?_;have G:=O.cp;simp only[D.copy]at G;have N:=O.nm;have J:=Sn r;simp only[cJ,AH,AJ,iW,iV,AZ];simp[G,-D.norm];rw[N];refine⟨_,_,W,?_⟩;simp[AA,NK,J]
def lW(fd:D)(fid:Nat)(caps:List D)(J:FV fd fid caps)(xs:List V)(G:xs.length <2^40)(hc:∀x∈xs,∃cs,x= .agg cs/\cs.length=4){r:Option Nat}(N:IdxR Tryz.prog BK fid caps xs h r h'):
  FX 251 [xs,fd] h [((Em r:Int):D)] h':=pI oz fd fid caps J xs G hc N
def lV(fd:D)(fid:Nat)(caps:List D)(J:FV fd fid caps)(xs:List V)(G:xs.length <2^40)(hc:∀x∈xs,∃n,x= .int .i64 n){r:Option Nat}(N:IdxR Tryz.prog BK fid caps xs h r h'):
  FX 252 [xs,fd] h [((Em r:Int):D)] h':=pI oy fd fid caps J xs G (λx hx=>⟨rfl,hc x hx⟩) N
def lU(fd:D)(fid:Nat)(caps:List D)(J:FV fd fid caps)(xs:List V)(G:xs.length <2^40)(hc:∀x∈xs,∃cs,x= .agg cs/\cs.length=3){r:Option Nat}(N:IdxR Tryz.prog BK fid caps xs h r h'):
  FX 253 [xs,fd] h [((Em r:Int):D)] h':=pI ov fd fid caps J xs G hc N
def lQ(fd:D)(fid:Nat)(caps:List D)(J:FV fd fid caps)(xs:List V)(G:xs.length <2^40)(hc:∀x∈xs,∃cs,x= .agg cs/\cs.length=3){r:Option Nat}(N:IdxR Tryz.prog BK fid caps xs h r h'):
  FX 254 [xs,fd] h [((Em r:Int):D)] h':=pI ou fd fid caps J xs G hc N
def lD(fd:D)(fid:Nat)(caps:List D)(J:FV fd fid caps)(xs:List V)(G:xs.length <2^40)(hc:∀x∈xs,∃cs,x= .agg cs/\cs.length=3){r:Option Nat}(N:IdxR Tryz.prog BK fid caps xs h r h'):
  FX 272 [xs,fd] h [((Em r:Int):D)] h':=pI om fd fid caps J xs G hc N
def lA(fd:D)(fid:Nat)(caps:List D)(J:FV fd fid caps)(xs:List V)(G:xs.length <2^40)(hc:∀x∈xs,∃cs,x= .agg cs/\cs.length=8){r:Option Nat}(N:IdxR Tryz.prog BK fid caps xs h r h'):
  FX 275 [xs,fd] h [((Em r:Int):D)] h':=pI ol fd fid caps J xs G hc N
def kU(fd:D)(fid:Nat)(caps:List D)(J:FV fd fid caps)(xs:List V)(G:xs.length <2^40)(hc:∀x∈xs,∃cs,x= .agg cs/\cs.length=8){r:Option Nat}(N:IdxR Tryz.prog BK fid caps xs h r h'):
  FX 307 [xs,fd] h [((Em r:Int):D)] h':=pI oh fd fid caps J xs G hc N
def kM(fd:D)(fid:Nat)(caps:List D)(J:FV fd fid caps)(xs:List V)(G:xs.length <2^40)(hc:∀x∈xs,∃cs,x= .agg cs/\cs.length=4){r:Option Nat}(N:IdxR Tryz.prog BK fid caps xs h r h'):
  FX 318 [xs,fd] h [((Em r:Int):D)] h':=pI og fd fid caps J xs G hc N
def kI(fd:D)(fid:Nat)(caps:List D)(J:FV fd fid caps)(xs:List V)(G:xs.length <2^40)(hc:∀x∈xs,∃cs,x= .agg cs/\cs.length=4){r:Option Nat}(N:IdxR Tryz.prog BK fid caps xs h r h'):
  FX 323 [xs,fd] h [((Em r:Int):D)] h':=pI od fd fid caps J xs G hc N
def W9(fd:D)(fid:Nat)(caps:List D)(J:FV fd fid caps)(xs:List V)(G:xs.length <2^40)(hc:∀x∈xs,∃cs,x= .agg cs/\cs.length=4){r:Option Nat}(N:IdxR Tryz.prog BK fid caps xs h r h'):
  FX 149 [xs,fd] h [(r.isSome:D)] h':=pJ pB fd fid caps J xs (lW fd fid caps J xs G hc N)
def W8(fd:D)(fid:Nat)(caps:List D)(J:FV fd fid caps)(xs:List V)(G:xs.length <2^40)(hc:∀x∈xs,∃n,x= .int .i64 n){r:Option Nat}(N:IdxR Tryz.prog BK fid caps xs h r h'):
  FX 151 [xs,fd] h [(r.isSome:D)] h':=pJ pA fd fid caps J xs (lV fd fid caps J xs G hc N)
def Zu(fd:D)(fid:Nat)(caps:List D)(J:FV fd fid caps)(xs:List V)(G:xs.length <2^40)(hc:∀x∈xs,∃cs,x= .agg cs/\cs.length=3){r:Option Nat}(N:IdxR Tryz.prog BK fid caps xs h r h'):
  FX 153 [xs,fd] h [(r.isSome:D)] h':=pJ o9 fd fid caps J xs (lU fd fid caps J xs G hc N)
def dz(fd:D)(fid:Nat)(caps:List D)(J:FV fd fid caps)(xs:List V)(G:xs.length <2^40)(hc:∀x∈xs,∃cs,x= .agg cs/\cs.length=3){r:Option Nat}(N:IdxR Tryz.prog BK fid caps xs h r h'):
  FX 183 [xs,fd] h [(r.isSome:D)] h':=pJ o8 fd fid caps J xs (lD fd fid caps J xs G hc N)
def lO(fd:D)(fid:Nat)(caps:List D)(J:FV fd fid caps)(xs:List V)(G:xs.length <2^40)(hc:∀x∈xs,∃cs,x= .agg cs/\cs.length=8){r:Option Nat}(N:IdxR Tryz.prog BK fid caps xs h r h'):
  FX 256 [xs,fd] h [(r.isSome:D)] h':=pJ ot fd fid caps J xs (kU fd fid caps J xs G hc N)
def da(fd:D)(fid:Nat)(caps:List D)(J:FV fd fid caps)(xs:List V)(G:xs.length <2^40)(hc:∀x∈xs,∃cs,x= .agg cs/\cs.length=4){r:Option Nat}(N:IdxR Tryz.prog BK fid caps xs h r h'):
  FX 277 [xs,fd] h [(r.isSome:D)] h':=pJ oj fd fid caps J xs (kM fd fid caps J xs G hc N)
def ka(fd:D)(fid:Nat)(caps:List D)(J:FV fd fid caps)(xs:List V)(G:xs.length <2^40)(hc:∀x∈xs,∃cs,x= .agg cs/\cs.length=4){r:Option Nat}(N:IdxR Tryz.prog BK fid caps xs h r h'):
  FX 293 [xs,fd] h [(r.isSome:D)] h':=pJ oi fd fid caps J xs (kI fd fid caps J xs G hc N)
end
end Go.Va
