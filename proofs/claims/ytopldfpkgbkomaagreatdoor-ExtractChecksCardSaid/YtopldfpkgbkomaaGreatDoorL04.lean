/- Laws, part 4. No condition. -/
import Derived.Shelf.SlIterI.Sorted
import Derived.Shelf.SortM.Plain
import Derived.Shelf.SortM.SortNone
import Derived.Test.YtopldfpkgbkomaaGreatDoorL02
set_option linter.all false
set_option maxRecDepth 100000
set_option maxHeartbeats 4000000
noncomputable section
namespace Go.Va
section
variable {s:St} {Q:AExit->St->Prop} {r:Nat} {h:List Row}
section
variable {P:Program} {GL:Ai}
def Bu{c:AC}{s1:St}(h:awp P GL c (λe s'=>match e with| .normal=>s'=s1|e=>Q e s') s)(G:awp P GL (.loop c) Q s1):awp P GL (.loop c) Q s:=by
 obtain⟨n,J⟩:=OF G;refine LoopW.awp (n:=n+1) (Ap c ?_ h);intro e s' h;cases e with
 |normal=>subst h;exact J
 |exit i=>exact h
 |ret=>exact h
def Av{c:AC}(h:awp P GL c (λe s'=>match e with| .normal=>False|e=>Q e s') s):awp P GL (.loop c) Q s:=by
 refine LoopW.awp (n:=1) (Ap c ?_ h);intro e s' h;cases e with
 |normal=>exact h.elim
 |exit i=>exact h
 |ret=>exact h
def CY{x y:Row}(G:h[r]?=some y):(h.set r x)[r]?=some x:=sY (rZ.1 G).1
def Ii(h:List Row)(x:Row):(h++[x])[h.length]?=some x:=Ac
def AU{y:Row}(l:List Row)(G:h[r]?=some y):(h++l)[r]?=some y:=by rw[sI (rZ.1 G).1];exact G
def Cs{y:Row}(G:h[r]?=some y):r <h.length:=(rZ.1 G).1
def Wm(h:List Row)(x y:Row):(h++[x]).set h.length y=h++[y]:=by rw[uZ _ _ (ri _)];simp
end
end
open Go.Proofs
def mg(n:Int)(W:i64 n):PX 193 [n] [.int .u64 (Ip n)]:=by
 refine BS 193 ?_;simp[As 193,awp,AB 193 0,AB 193 1,AW 193,Ad];have O:((2:Int)^min 1 IntKind.u64.bits)=2:=Ah;have e2:((2:Int)^min 63 IntKind.i64.bits)=9223372036854775808:=Ah;have U:((2:Int)^IntKind.u64.bits)=18446744073709551616:=Ah;simp only[O,e2,U,EJ];unfold i64 at W;unfold Ip;by_cases N:n <0
 .have q:n.fdiv 9223372036854775808= -1:=by rw[ua _ Ah];omega
  have G:(n%18446744073709551616*2%18446744073709551616%18446744073709551616).toNat=(18446744073709551616+2*n).toNat:=by congr 1;omega
  have J:(n.fdiv 9223372036854775808%18446744073709551616%18446744073709551616).toNat=2^64-1:=by rw[q];rfl
  rw[G,J,Pc _ AE,if_pos N];omega
 .have q:n.fdiv 9223372036854775808=0:=by rw[ua _ Ah];omega
  have G:(n%18446744073709551616*2%18446744073709551616%18446744073709551616).toNat=(2*n).toNat:=by congr 1;omega
  have J:(n.fdiv 9223372036854775808%18446744073709551616%18446744073709551616).toNat=0:=by rw[q];rfl
  rw[G,J,Nat.xor_zero,if_neg N];omega
def mZ(n:Int)(N:i64 n):PX 199 [n] [.int .u64 (Ip n)]:=by
 refine BS 199 ?_;unfold i64 at N;unfold Ip;by_cases G:n <0
 .simp[As 199,awp,AB 199 0,AB 199 1,AB 199 2,AW 199,Ad,G];have J:IntKind.i64.wrap (n+1)=n+1:=AS AE AE;rw[J,AS (a:= -(n+1)) AE AE];simp only[EJ];omega
 .simp[As 199,awp,AB 199 0,AB 199 1,AB 199 3,AW 199,Ad,G];simp only[EJ];omega
def XC{n:Int}:IntKind.u8.wrap (((IntKind.u8.wrap n%2^IntKind.u8.bits).toNat ||| 128%2^IntKind.u8.bits:Nat):Int)=128+n%128:=by
 have G:((2:Int)^IntKind.u8.bits)=256:=Ah;have J:(128%2^IntKind.u8.bits)=128:=Ah;rw[G,J];have N:(IntKind.u8.wrap n%256).toNat <256:=by rw[Hs];omega
 rw[em _ N,Hs,Hs];omega
def oR(k:Nat):∀(n:Int)(h:List Row)(r:Nat)(xs:List Int),0<=n->n <128^(k+1)->n <18446744073709551616->h[r]?=some (wr xs)->xs.length+k<=2^46->
  ∃U m,Dq k n=U++[m]/\0<=m/\m <128/\
  AX (.loop (lG 192 0)) (λe s=>e= .exit 0/\s=⟨[(0,.R r 0),(1,.v (.int .u64 m)),(5,(false:D))],h.set r (wr (xs++U))⟩) ⟨[(0,.R r 0),(1,.v (.int .u64 n))],h⟩:=by
 induction k with
 |zero=>
  intro n h r xs W Z h2 J hl;refine⟨[],n,rfl,W,by simpa using Z,?_⟩;have a6:(128:Int)^(0+1)=128:=Ah;have O:¬128<=n:=AE;refine Av ?_;simp only[Zw,BG 192 0,AB 192 0];simp[O,AN,Hv J]
 |succ k ih=>
  intro n h r xs W Z h2 J hl;by_cases O:128<=n
  .have N:∀x,(h.set r x)[r]?=some x:=λx=>CY J;have a1:0<=n/128:=AE;have a2:n/128 <128^(k+1):=vF Ah (by rw[<-sb];exact Z);obtain⟨U,m,e1,e2,e3,hw⟩:=ih (n/128) (h.set r (wr (xs++[128+n%128]))) r (xs++[128+n%128]) a1 a2 AE (N _) Dd;refine⟨(128+n%128)::U,m,?_,e2,e3,?_⟩
   .simp only[Dq,if_neg (show ¬n <128 by omega),e1,sw]
   .refine Bu (s1:=⟨[(0,.R r 0),(1,.v (.int .u64 (n/128)))],h.set r (wr (xs++[128+n%128]))⟩) ?_ ?_
    .simp only[Zw,BG 192 0,AB 192 0];simp[O,AD];have G:AV (xs.length+1) 1=true:=by simp[AV];omega
     have e5:((2:Int)^min 7 IntKind.u64.bits)=128:=Ah;simp only[AB 192 2,AB 192 1];simp[J,wr,N,V.cells,EC,BZ,G,XC,e5,ua]
    .rw[tm]at hw;simpa using hw
  .refine⟨[],n,by simp only[Dq,if_pos (show n <128 by omega)];rfl,W,AE,?_⟩;refine Av ?_;simp only[Zw,BG 192 0,AB 192 0];simp[O,AN,Hv J]
def Zr(n:Int)(J:u64 n)(h:List Row)(r:Nat)(xs:List Int)(W:h[r]?=some (wr xs))(hl:xs.length<=2^45):FX 192 [.R r 0,.v (.int .u64 n)] h [] (h.set r (wr (xs++Fk n))):=by
 refine EH 192 ?_;unfold u64 at J;have U:(128:Int)^(9+1)=1180591620717411303424:=Ah;obtain⟨Z,m,O,e2,e3,hw⟩:=oR 9 n h r xs J.1 AE J.2 W AE;have a1:Z.length<=9:=by have:=IX 9 n;rw[O]at this;simp at this;omega
 simp only[As 192,AH,AY,AZ];simp;refine Ew hw ?_;have N:∀x,(h.set r x)[r]?=some x:=λx=>CY W;have G:AV (xs.length+Z.length+1) 1=true:=by simp[AV];omega
 simp only[AJ,AB 192 3];simp[wr,N,V.cells,EC,BZ,G,Ld e2 (show m <256 by omega),AW 192,Dg,Fk,O]
def U7(a b:Int):PX 175 [.int .u64 a,.int .u64 b] [.int .u64 (EA a b)]:=by refine BS 175 ?_;simp[As 175,awp,AB 175 0,AB 175 1,AB 175 2,AW 175,Ad];have h:=EI (IntKind.u64.wrap ↑((a%2^IntKind.u64.bits).toNat ^^^ (b%2^IntKind.u64.bits).toNat)*11400714819323198485);have e:=EI ((IntKind.u64.wrap (IntKind.u64.wrap ↑((a%2^IntKind.u64.bits).toNat ^^^ (b%2^IntKind.u64.bits).toNat)*11400714819323198485))/4294967296);rw[ub h.1,BL (a:=_/4294967296) AE AE];rfl
def U6(a b:Int):PX 190 [.int .u64 a,.int .u64 b] [.int .u64 (EA a b)]:=by refine BS 190 ?_;simp[As 190,awp,AB 190 0,AB 190 1,AB 190 2,AW 190,Ad];have e:((2:Int)^min 32 IntKind.u64.bits)=4294967296:=Ah;rw[e,ua _ Ah];rfl
def aM(bs:List Int)(W:∀b∈bs,0<=b/\b <256)(hl:bs.length<=2^40)(x:D)(k:Nat)(hk:8*k <bs.length):
  AX (.loop (lG 174 1)) (λe s=>e= .exit 2/\s=⟨[(0,.v (AM .u8 bs)),(3,x),(4,((8*k:Nat):D)),(5,.v (.int .u64 (Iz ((bs.drop (8*k)).take 8)))),(6,((8*k-1:Int):D)),(21,(false:D))],[]⟩)
   ⟨[(0,.v (AM .u8 bs)),(3,x),(4,((8*k:Nat):D)),(5,.v (.int .u64 0)),(6,(((min (8*k+8) bs.length:Nat)-1:Int):D))],[]⟩:=by
 have hm:8*k <min (8*k+8) bs.length:=AE;generalize a1:min (8*k+8) bs.length=m at hm;have:=EY (P:=Tryz.prog) (GL:=BK) (c:=(lG 174 1)) (Q:=λe s=>e= .exit 2/\s=⟨[(0,.v (AM .u8 bs)),(3,x),(4,((8*k:Nat):D)),(5,.v (.int .u64 (Iz ((bs.drop (8*k)).take 8)))),(6,((8*k-1:Int):D)),(21,(false:D))],[]⟩) (m-8*k)
  (λj=>⟨[(0,.v (AM .u8 bs)),(3,x),(4,((8*k:Nat):D)),(5,.v (.int .u64 (Iz ((bs.drop (m-j)).take j)))),(6,(((m:Int)-j-1:Int):D))],[]⟩) ?_ 0 (tB _)
 .simpa[Iz]using this
 intro j hj;simp only[Zw,BG 174 1,AB 174 7];simp[AM];by_cases U:(8*(k:Int))<=(m:Int)-j-1
 .rw[if_pos U,AD];have hi:m-j-1 <bs.length:=AE;obtain⟨G,J⟩:∃G,bs[m-j-1]?=some G:=⟨_,rW hi⟩;obtain⟨N,Z⟩:=W G (rY J);have h2:1<=(m:Int)-j:=AE;have hd:bs.drop (m-(j+1))=G::bs.drop (m-j):=by rw[show m-(j+1)=m-j-1 by omega,tn hi,show m-j-1+1=m-j by omega];rw[(rZ.1 J).2]
  have hw:Iz ((bs.drop (m-(j+1))).take (j+1))=IntKind.u64.wrap (IntKind.u64.wrap (256*Iz ((bs.drop (m-j)).take j))+IntKind.u64.wrap G):=by rw[hd,vG];have e:∀l,Iz (G::l)=256*Iz l+G:=λ_=>rfl;rw[e];obtain⟨q1,q2⟩:=MU bs W (m-j) j AE;have q3:(256:Int)^j<=256^7:=Ox AE;have q4:(256:Int)^7=72057594037927936:=Ah;rw[BL N AE,BL (a:=256*_) AE AE,BL AE AE]
  simp only[AB 174 8,AB 174 9];simp[J,h2,V.cells];refine⟨AE,?_⟩;exact⟨hw.symm,by rw[AS AE AE];omega⟩
 .rw[if_neg U,AN];have:m-8*k=j:=AE;subst this;simp;refine⟨?_,AE,AE⟩;rw[show m-(m-8*k)=8*k by omega];rcases sL (m-8*k) 8 with h|h
  .have O:m=bs.length:=AE;subst O;rw[sN Ac,sN Dd]
  .rw[show m-8*k=8 by omega]
def eJ(bs:List Int)(Z:∀b∈bs,0<=b/\b <256)(hl:bs.length<=2^40):PX 174 [AM .u8 bs] [AM .u64 (Au bs)]:=by
 refine BS 174 ?_;simp only[As 174,AH,AJ,AY,AB 174 0,AB 174 1,AB 174 2,Ad];simp[AM];refine EY ((bs.length+7)/8) (λk=>⟨[(0,.v (AM .u8 bs)),(3,.W 47 1 (((Au bs).take k).map (.int .u64))),(4,((8*k:Nat):D))],[]⟩) ?_ 0 (tB _);intro k hk;simp only[Zw,BG 174 0,AB 174 3];simp[AM];by_cases U:8*(k:Int) <bs.length
 .rw[if_pos U,AD];simp only[AB 174 5,AB 174 6];simp;have W:IntKind.i64.wrap (8*(k:Int)+8)=8*k+8:=AS AE AE;have N:IntKind.i64.wrap ((if (bs.length:Int) <8*k+8 then (bs.length:Int) else 8*k+8)-1)=((min (8*k+8) bs.length:Nat)-1:Int):=by
   rw[AS (by split<;>omega) (by split<;>omega)]
   split<;>omega
  rw[W,N];have:=aM bs Z hl (.W 47 1 (((Au bs).take k).map (.int .u64))) k AE;simp[AM]at this;refine Ew this ?_;have O:(Au bs).take (k+1)=(Au bs).take k++[Iz ((bs.drop (8*k)).take 8)]:=by
   have J:k <(Au bs).length:=by simp[Au];omega
   rw[tM J];simp[Au]
  have hr:AV (min k (Au bs).length+1) 8=true:=by simp only[AV,decide_eq_true_eq];have:min k (Au bs).length<=k:=Nat.min_le_left _ _;omega
  simp only[AB 174 10,AB 174 4];simp[BZ,V.cells,hr,W];refine⟨AE,?_,AE⟩;rw[<-sQ,<-sQ,O];simp
 .rw[if_neg U,AN];have G:k=(bs.length+7)/8:=AE;simp[AB 174 11,AW 174,AA];rw[G];simp[Au];rw[sN Ac]
def JO(label:List Int)(l:List Int):Int:=
 EA (l.foldl (λs n=>EA s (IntKind.u64.wrap n)) (EA (EA ((Au label).foldl EA 0) label.length) l.length)) 0
def fH(J:D)(l:V)(G:List Int)(Z:G.length<=2^40):
  AX (.loop (lG 84 0)) (λe s=>e= .exit 0/\s=⟨[(0,J),(1,.v l),(5,.v (.int .u64 (G.foldl EA 0))),(6,.v (AM .u64 G)),(7,(G.length:D)),(15,(false:D))],[]⟩)
   ⟨[(0,J),(1,.v l),(5,.v (.int .u64 0)),(6,.v (AM .u64 G)),(7,((0:Int):D))],[]⟩:=by
 refine EY G.length (λk=>⟨[(0,J),(1,.v l),(5,.v (.int .u64 ((G.take k).foldl EA 0))),(6,.v (AM .u64 G)),(7,(k:D))],[]⟩) ?_ 0 (tB _);intro k W;simp only[Zw,BG 84 0,AB 84 4];simp[AM];by_cases N:k <G.length
 .have hx:G[k]?=some G[k]:=rW N;have U:=Bt k;rw[CF,AD];simp only[AB 84 5,AB 84 6];simp[hx,V.cells,Dn,D.norm,A9,D.arg];have O:=(U7 ((G.take k).foldl EA 0) G[k]).fsp [];refine⟨_,_,O,?_⟩;refine⟨N,⟨?_,U⟩,rfl⟩;rw[tM N,tq];rfl
 .have:k=G.length:=AE;subst this;rw[Bj,AN];simp
def fG(l:List Int)(G:Int)(W:l.length<=2^40):
  AX (.loop (lG 84 1)) (λe s=>e= .exit 2/\s=⟨[(1,.v (AM .i64 l)),(5,.v (.int .u64 (l.foldl (λs n=>EA s (IntKind.u64.wrap n)) G))),(8,(l.length:D)),(37,(false:D))],[]⟩)
   ⟨[(1,.v (AM .i64 l)),(5,.v (.int .u64 G)),(8,((0:Int):D))],[]⟩:=by
 refine EY l.length (λk=>⟨[(1,.v (AM .i64 l)),(5,.v (.int .u64 ((l.take k).foldl (λs n=>EA s (IntKind.u64.wrap n)) G))),(8,(k:D))],[]⟩) ?_ 0 (tB _);intro k U;simp only[Zw,BG 84 1,AB 84 10];simp[AM];by_cases J:k <l.length
 .have hx:l[k]?=some l[k]:=rW J;have O:=Bt k;rw[CF,AD];simp only[AB 84 11,AB 84 12];simp[hx,V.cells,Dn,D.norm,A9,D.arg];have N:=(U7 ((l.take k).foldl (λs n=>EA s (IntKind.u64.wrap n)) G) (IntKind.u64.wrap l[k])).fsp [];refine⟨_,_,N,?_⟩;refine⟨J,⟨?_,O⟩,rfl⟩;rw[tM J,tq];rfl
 .have:k=l.length:=AE;subst this;rw[Bj,AN];simp
def An(b:ByteArray):List Int:=b.data.toList.map λc=>(c.toNat:Int)
def dA(b:ByteArray)(l:List Int)(hb:b.size<=2^39)(Z:l.length<=2^40):PX 84 [.str b,AM .i64 l] [.int .u64 (JO (An b) l)]:=by
 refine BS 84 ?_;have J:(An b).length=b.size:=by simp[An]
 have U:=eJ (An b) (λx hx=>by simp only[An,rl]at hx;obtain⟨c,_,rfl⟩:=hx;have:=c.toNat_lt;omega) AE
 have N:(Au (An b)).length<=2^40:=by simp[Au];omega
 simp only[As 84,AH,AJ,AY,AB 84 0,AB 84 1,AB 84 2,AB 84 3,Ad];simp[Dn,D.norm,A9,D.arg];have W:AM .u8 (An b)=(b.data.toList.map λc=>V.int .u8 c.toNat:V):=by simp[AM,An]
 rw[W]at U;have O:=U.fsp [];simp at O;refine⟨_,_,O,?_⟩;simp[Bp];refine Ew (fH (.v (.str b)) (AM .i64 l) (Au (An b)) N) ?_;simp only[AB 84 7,AB 84 8,AB 84 9];simp[Dn,D.norm,A9,D.arg,AM];have w1:IntKind.u64.wrap (b.size:Int)=b.size:=BL AE AE;have w2:IntKind.u64.wrap (l.length:Int)=l.length:=BL AE AE;rw[w1];refine⟨_,_,(U7 ((Au (An b)).foldl EA 0) b.size).fsp [],?_⟩;simp[Bp,w2];refine⟨_,_,(U7 (EA ((Au (An b)).foldl EA 0) b.size) l.length).fsp [],?_⟩;simp;have G:=fG l (EA (EA ((Au (An b)).foldl EA 0) b.size) l.length) Z;simp only[AM]at G;refine Ew G ?_;simp only[AB 84 13];simp[Dn,D.norm,A9,D.arg];refine⟨_,_,(U7 _ 0).fsp [],?_⟩;simp[Bp,AA,AW 84,JO,J]
section
attribute [simp] Dn D.norm A9 D.arg Bp CY Ii V.cells Dg AR.d D.keep
@[simp] theorem aV (s:Nat):BZ s []=true:=rfl
@[simp] theorem Yo (s:Nat) (x:V) (xs:List V):BZ s (x::xs)=(x.cells.length==s):=rfl
@[simp] theorem aW (k:IntKind) (l:List Int):BZ 1 (l.map (V.int k))=true:=by cases l<;>rfl
variable {s:St} {Q:AExit->St->Prop}
def Ab{P:Program}{GL:Ai}{c:AC}(n:Nat)(S:Nat->St)(G:s=S 0)(h:∀k,k<=n->awp P GL c (λe s'=>match e with| .normal=>k <n/\s'=S (k+1)|e=>Q e s') (S k)):awp P GL (.loop c) Q s:=
 G▸EY n S h 0 (tB _)
variable {k:Nat}
def Bk{α β:Type}{f:α->List β}{l:List α}(h:k <l.length):(l.take (k+1)).flatMap f=(l.take k).flatMap f++f l[k]:=by rw[tM h,tU];simp
def Zl(n:Int)(G:i64 n)(h:List Row)(r:Nat)(xs:List Int)(N:h[r]?=some (wr xs))(J:xs.length<=2^45):FX 98 [.R r 0,n] h [] (h.set r (wr (xs++Aj n))):=by refine EH 98 ?_;simp[As 98,awp,AB 98 0,AW 98,AZ];refine⟨_,_,(mg n G).fsp h,?_⟩;simp;exact⟨_,(Zr (Ip n) (Hr G) h r xs N J)⟩
def mf(b:ByteArray)(W:b.size<=2^40)(h:List Row)(r:Nat)(xs:List Int)(N:h[r]?=some (wr xs))(O:xs.length<=2^45):FX 194 [.R r 0,.v (.str b)] h [] (h.set r (wr (xs++BR (An b)))):=by
 refine EH 194 ?_;have J:(An b).length=b.size:=by simp[An]
 have U:IntKind.u64.wrap (b.size:Int)=b.size:=BL AE AE;simp[As 194,awp,AB 194 0,AB 194 1,AW 194,AZ,U];refine⟨_,_,(Zr b.size ⟨AE,AE⟩ h r xs N O),?_⟩;have Z:=Cu b.size;have G:AV (xs.length+(Fk b.size).length+b.size) 1=true:=by simp[AV];omega
 simp[CY N,wr,G,BR,J];simp[An,ud]
def dy(k:Nat):∀(n:Int)(h:List Row)(xs:List Int),0<=n->n <128^(k+1)->n <18446744073709551616->xs.length+k<=2^46->
  ∃O m,Dq k n=O++[m]/\0<=m/\m <128/\
  AX (.loop (lG 198 0)) (λe s=>e= .exit 0/\s=⟨[(0,.v (.int .u64 m)),(3,.W 5 1 ((xs++O).map (.int .u8))),(5,(false:D))],h⟩) ⟨[(0,.v (.int .u64 n)),(3,.W 5 1 (xs.map (.int .u8)))],h⟩:=by
 induction k with
 |zero=>
  intro n h xs J U h2 hl;refine⟨[],n,rfl,J,by simpa using U,?_⟩;have a1:(128:Int)^(0+1)=128:=Ah;have N:¬127 <n:=AE;refine Av ?_;simp only[Zw,BG 198 0,AB 198 2];simp[N,AN]
 |succ k ih=>
  intro n h xs J U h2 hl;by_cases N:127 <n
  .have W:0<=n/128:=AE;have Z:n/128 <128^(k+1):=vF Ah (by rw[<-sb];exact U);obtain⟨O,m,e1,e2,e3,hw⟩:=ih (n/128) h (xs++[128+n%128]) W Z AE Dd;refine⟨(128+n%128)::O,m,?_,e2,e3,?_⟩
   .simp only[Dq,if_neg (show ¬n <128 by omega),e1,sw]
   .refine Bu (s1:=⟨[(0,.v (.int .u64 (n/128))),(3,.W 5 1 ((xs++[128+n%128]).map (.int .u8)))],h⟩) ?_ ?_
    .simp only[Zw,BG 198 0,AB 198 2];simp[N,AD];have G:AV (xs.length+1) 1=true:=by simp[AV];omega
     have w1:IntKind.u64.wrap (n/128)=n/128:=BL AE AE;have w2:IntKind.u64.wrap (n%128)=n%128:=BL AE AE;have w3:IntKind.u64.wrap (128+n%128)=128+n%128:=BL AE AE;have w4:IntKind.u8.wrap (128+n%128)=128+n%128:=Ld AE AE;simp only[AB 198 3,AB 198 4];simp[EC,G,ub J,vH J,w1,w3,w4]
    .simpa using hw
  .refine⟨[],n,by simp only[Dq,if_pos (show n <128 by omega)];rfl,J,AE,?_⟩;refine Av ?_;simp only[Zw,BG 198 0,AB 198 2];simp[N,AN]
def W6(n:Int)(J:u64 n)(h:List Row):FX 198 [.v (.int .u64 n)] h [.W 5 1 ((Fk n).map (.int .u8))] h:=by
 refine EH 198 ?_;unfold u64 at J;have O:(128:Int)^(9+1)=1180591620717411303424:=Ah;obtain⟨W,m,N,e2,e3,U⟩:=dy 9 n h [] J.1 AE J.2 Ah;have Z:W.length<=9:=by have:=IX 9 n;rw[N]at this;simp at this;omega
 simp only[As 198,AH,AY,AJ,AB 198 0,AB 198 1,AZ];simp;simp at U;refine Ew U ?_;have G:AV (W.length+1) 1=true:=by simp[AV];omega
 simp only[AB 198 5];simp[G,Ld e2 (show m <256 by omega),AW 198,Fk,N,AA]
def Ob(n:Int)(G:i64 n)(h:List Row):FX 104 [n] h [.W 5 1 ((Aj n).map (.int .u8))] h:=by refine EH 104 ?_;simp[As 104,awp,AB 104 0,AB 104 1,AW 104,AZ];refine⟨_,_,(mZ n G).fsp h,?_⟩;simp;refine⟨_,(W6 (Ip n) (Hr G) h),?_⟩;simp[Aj]
def eh(xs:List Int)(N:xs.length<=2^45)(h:List Row):FX 105 [.v (AM .u8 xs)] h [.W 5 1 ((BR xs).map (.int .u8))] h:=by
 refine EH 105 ?_;have J:IntKind.u64.wrap (xs.length:Int)=xs.length:=BL AE AE;simp[As 105,awp,AB 105 0,AB 105 1,AW 105,AZ,AM,J];refine⟨_,_,(W6 xs.length ⟨AE,AE⟩ h),?_⟩;have O:=Cu xs.length;have G:AV ((Fk xs.length).length+xs.length) 1=true:=by simp[AV];omega
 simp[G,BR]
theorem eg(l:List Int)(hi:∀n∈l,i64 n)(U:l.length<=2^40)(h:List Row):FX 107 [.v (AM .i64 l)] h [.W 5 1 ((BI l).map (.int .u8))] h:=by
 refine EH 107 ?_;have O:IntKind.u64.wrap (l.length:Int)=l.length:=BL AE AE;simp only[As 107,AH,AY,AJ,AB 107 0,AB 107 1,AB 107 2,AZ];simp[AM,O];refine⟨_,_,(W6 l.length ⟨AE,AE⟩ h),?_⟩;have hu:=Cu l.length;simp;refine Ab l.length (λk=>⟨[(0,.v (AM .i64 l)),(3,.W 5 1 ((Fk l.length++(l.take k).flatMap Aj).map (.int .u8))),(4,(k:D))],h⟩) (by simp[AM]) ?_;intro k hk;simp only[Zw,BG 107 0,AB 107 3];simp[AM];by_cases J:k <l.length
 .have hx:l[k]?=some l[k]:=rW J;have N:=Bt k;rw[CF,AD];simp only[AB 107 4,AB 107 5];simp[hx];refine⟨_,_,(Ob l[k] (hi _ (sy J)) h),?_⟩;have Z:=CQ (l.take k);have W:=Al l[k];have ht:(l.take k).length=k:=by simp;omega
  have G:AV ((Fk l.length).length+((l.take k).flatMap Aj).length+(Aj l[k]).length) 1=true:=by simp[AV,-List.length_flatMap];omega
  simp[G,J,N,-List.length_flatMap];rw[Bk J];simp
 .have:k=l.length:=AE;subst this;rw[Bj,AN];simp[AA,AB 107 6,AW 107,BI]
def eZ(xs:List Int)(J:xs.length<=2^45):∀h,FX 117 [.v (AM .u8 xs)] h [.W 5 1 (xs.map (.int .u8))] h:=by
 intro h;refine EH 117 ?_;have G:AV xs.length 1=true:=by simp[AV];omega
 cases xs with
 |nil=>simp[As 117,awp,AB 117 0,AB 117 1,AB 117 2,AB 117 3,AW 117,AZ,AM,AV]
 |cons x xs=>simp[As 117,awp,AB 117 0,AB 117 1,AB 117 2,AB 117 3,AW 117,AZ,AM]at G ⊢;simp[G]
def Z5(h:List Row)(r:Nat)(xs:List Int)(J:h[r]?=some (wr xs))(G:xs.length<=2^45):FX 102 [.R r 0] h [.W 5 1 (xs.map (.int .u8))] h:=by refine EH 102 ?_;simp[As 102,awp,AB 102 0,AB 102 1,AW 102,AZ,J,wr];refine⟨_,(eZ xs G h),?_⟩;simp
theorem Z6(l:List Int)(hi:∀n∈l,i64 n)(U:l.length<=2^40)(h:List Row)(r:Nat)(xs:List Int)(J:h[r]?=some (wr xs))(hl:xs.length<=2^44):FX 100 [.R r 0,.v (AM .i64 l)] h [] (h.set r (wr (xs++BI l))):=by
 refine EH 100 ?_;have O:IntKind.u64.wrap (l.length:Int)=l.length:=BL AE AE;simp only[As 100,AH,AY,AJ,AB 100 0,AB 100 1,AZ];simp[AM,O];refine⟨_,_,(Zr l.length ⟨AE,AE⟩ h r xs J AE),?_⟩;have hu:=Cu l.length
 try simp
 refine Ab l.length (λk=>⟨[(0,.R r 0),(11,.v (AM .i64 l)),(12,(l.length:D)),(13,(k:D))],h.set r (wr (xs++(Fk l.length++(l.take k).flatMap Aj)))⟩) (by simp[AM]) ?_;intro k Z;simp only[Zw,BG 100 0,AB 100 2];simp[AM];by_cases G:k <l.length
 .have hx:l[k]?=some l[k]:=rW G;have N:=Bt k;rw[CF,AD];simp only[AB 100 3,AB 100 4,AB 100 5];simp[hx];have W:=CQ (l.take k);have ht:(l.take k).length=k:=by simp;omega
  refine⟨_,_,(Zl l[k] (hi _ (sy G)) _ r (xs++(Fk l.length++(l.take k).flatMap Aj)) (CY J) (by simp only[re];omega)),?_⟩;simp[G,N,Bk G]
 .have:k=l.length:=AE;subst this;rw[Bj,AN];simp[AW 100,BI]
end
section
def Se(l:List Int)(b:Int):Iz (l++[b])=Iz l+b*256^l.length:=by
 induction l with
 |nil=>simp[Iz]
 |cons x l ih=>
  have e:∀l,Iz (x::l)=256*Iz l+x:=λ_=>rfl;rw[sw,e,e,ih,sF,sb,Int.mul_add,sX (256^l.length) 256,<-si,<-si,sX b 256];omega
variable {j:Nat}
def QA{a b:Int}(hj:j <8)(ha:0<=a)(a1:a <256^j)(N:0<=b)(a2:b <256):
  IntKind.u64.wrap (((a%2^IntKind.u64.bits).toNat ||| (IntKind.u64.wrap (b*2^min (8*j) IntKind.u64.bits)%2^IntKind.u64.bits).toNat:Nat):Int)=a+b*256^j:=by
 have O:((2:Int)^IntKind.u64.bits)=18446744073709551616:=Ah;have U:min (8*j) IntKind.u64.bits=8*j:=by simp[IntKind.bits];omega
 have W:(2:Int)^(8*j)=256^j:=by rw[Int.pow_mul];rfl
 have q3:(256:Int)^j<=256^7:=Ox AE;have q4:(256:Int)^7=72057594037927936:=Ah;have q0:(0:Int) <256^j:=sR Ah;rw[O,U,W];have G:0<=b*256^j:=uE N AE;have a6:b*256^j<=255*256^j:=tJ AE AE;rw[BL G AE];have m1:a%18446744073709551616=a:=AE;have m2:(b*256^j)%18446744073709551616=b*256^j:=AE;rw[m1,m2];have J:(b*256^j).toNat=b.toNat <<< (8*j):=by
  rw[Nat.shiftLeft_eq,Nat.pow_mul];obtain⟨n,rfl⟩:=Int.eq_ofNat_of_zero_le N;have:((n:Int)*256^j)=((n*256^j:Nat):Int):=by rw[Int.natCast_mul,vE];rfl
  rw[this,tu,tu]
 have f2:a.toNat <2^(8*j):=by
  rw[Nat.pow_mul];have e6:((256^j:Nat):Int)=256^j:=by rw[vE];rfl
  have Z:(2^8)^j=256^j:=rfl;rw[Z];omega
 rw[J,Nat.or_comm,<-Nat.shiftLeft_add_eq_or_of_lt f2,<-J,BL AE AE];rw[tN];omega
def LP(b:ByteArray):(An b).length=b.size:=by simp[An]
variable {i:Nat}
def Rs{b:ByteArray}{x:Int}(h:(An b)[i]?=some x):∃c:UInt8,b[i]?=some c/\(c.toNat:Int)=x:=by
 unfold An at h;rw[rk,rt]at h;obtain⟨c,G,h2⟩:=h;refine⟨c,?_,h2⟩;obtain⟨J,O⟩:=rZ.1 G;have N:i <b.size:=by simpa using J
 rw[getElem?_pos b i N]
 congr 1
theorem fc(xs:List Int)(W:∀x∈xs,0<=x/\x <256)(hl:xs.length<=2^40)(y:D)(h:List Row)(c:Nat)(hc:h[c]?=some (.cells [.v (AM .u8 xs)]))(k:Nat)(hk:8*k <xs.length):
  AX (.loop (lG 324 1)) (λe s=>e= .exit 2/\AK s.e 0=y/\AK s.e 1= .R c 0/\AK s.e 3=((8*k:Nat):D)/\AK s.e 4= .v (.int .u64 (Iz ((xs.drop (8*k)).take 8)))/\s.h=h)
   ⟨[(0,y),(1,.R c 0),(3,((8*k:Nat):D)),(4,.v (.int .u64 0)),(5,((8*k:Nat):D))],h⟩:=by
 skip
 refine Ab (min (8*k+8) xs.length-8*k) (λj=>⟨[(0,y),(1,.R c 0),(3,((8*k:Nat):D)),(4,.v (.int .u64 (Iz ((xs.drop (8*k)).take j)))),(5,((8*k+j:Nat):D))],h⟩) (by simp[Iz]) ?_;intro j hj;have hw:IntKind.i64.wrap (8*(k:Int)+8)=8*k+8:=AS AE AE;simp only[Zw,BG 324 1,AB 324 5]
 try simp[AM]at hc
 simp[hw,hc];by_cases h1:8*k+j <min (8*k+8) xs.length
 .have hi:8*k+j <xs.length:=AE;obtain⟨G,J⟩:∃G,xs[8*k+j]?=some G:=⟨_,rW hi⟩;obtain⟨N,O⟩:=W G (rY J);have hd:(xs.drop (8*k)).take (j+1)=(xs.drop (8*k)).take j++[G]:=by rw[rx];simp[J]
  have ht:((xs.drop (8*k)).take j).length=j:=by simp only[sJ,List.length_drop];omega
  obtain⟨q1,q2⟩:=MU xs W (8*k) j AE;have w4:IntKind.u64.wrap G=G:=BL AE AE;have U:=QA (a:=Iz ((xs.drop (8*k)).take j)) (b:=G) (j:=j) AE q1 q2 N O;rw[if_pos (by split<;>omega),AD]
  have w1:IntKind.i64.wrap (8*(k:Int)+j-8*k)=j:=by rw[AS AE AE];omega
  have w2:IntKind.i64.wrap (8*(j:Int))=(8*j:Nat):=by rw[AS AE AE];rfl
  have w3:IntKind.i64.wrap (8*(k:Int)+j+1)=8*k+j+1:=AS AE AE;have x1:(8*(k:Int)+(j:Int)).toNat=8*k+j:=AE;have x2:0<=8*(k:Int)+(j:Int):=AE
  skip
  simp only[AB 324 6,AB 324 7];have x3:(8*(j:Int)).toNat=8*j:=AE;simp[hc,J,x1,x2,w1,w2,w4,hd,Se,ht,x3];refine⟨AE,?_⟩;simp[U,w3]
  try omega
 .have a1:j=min (8*k+8) xs.length-8*k:=AE;have Z:(xs.drop (8*k)).take j=(xs.drop (8*k)).take 8:=by
   rcases sL (xs.length-8*k) 8 with h8|h8
   .rw[sN Dd,sN Dd]
   .rw[show j=8 by omega]
  rw[if_neg (by split<;>omega),AN]
  simp[Z]
def kG(xs:List Int)(hb:∀x∈xs,0<=x/\x <256)(hl:xs.length<=2^40)(r c:Nat)(J:Nat->List Row)(hc:∀k,(J k)[c]?=some (.cells [.v (AM .u8 xs)]))(hy:∀k w,(Au xs)[k]?=some w->Ky Tryz.prog BK r [.v (.int .u64 w)] (J k) true (J (k+1))):
  FX 324 [.yld r,.R c 0] (J 0) [] (J (Au xs).length):=by
 skip
 refine EH 324 ?_;have U:(Au xs).length=(xs.length+7)/8:=by simp[Au]
 simp only[As 324,AH,AJ,AY,AB 324 0,AZ];simp;refine Ab (Au xs).length (λk=>⟨[(0,.yld r),(1,.R c 0),(3,((8*k:Nat):D))],J k⟩) Ac ?_;intro k hk;simp only[Zw,BG 324 0,AB 324 1];have N:=hc k
 try simp[AM]at N
 simp[N];by_cases h1:8*k <xs.length
 .rw[CF,AD];simp only[AB 324 3,AB 324 4];simp;refine Ap _ ?_ (fc xs hb hl (.yld r) (J k) c (hc k) k h1);rintro e ⟨se,sh⟩ ⟨rfl,W,Z,f3,f4,rfl⟩;have G:k <(Au xs).length:=AE;have hw:(Au xs)[k]?=some (Iz ((xs.drop (8*k)).take 8)):=by rw[rW G];simp[Au]
  have O:IntKind.i64.wrap (8*(k:Int)+8)=8*k+8:=AS AE AE;simp only[AB 324 8,AB 324 2];simp[W,Z,f3,f4,-Bool.exists_bool];refine⟨_,_,hy k _ hw,?_⟩;simp[AD,O,G];omega
 .rw[Bj,AN];have G:k=(Au xs).length:=AE;simp[AW 324,<-G]
theorem gB(b:ByteArray)(hb:∀x∈(An b),0<=x/\x <256)(hl:(An b).length<=2^40)(y:D)(h:List Row)(c:Nat)(hc:h[c]?=some (.cells [.v (.str b)]))(k:Nat)(hk:8*k <(An b).length):
  AX (.loop (lG 279 1)) (λe s=>e= .exit 2/\AK s.e 0=y/\AK s.e 1= .R c 0/\AK s.e 3=((8*k:Nat):D)/\AK s.e 4= .v (.int .u64 (Iz (((An b).drop (8*k)).take 8)))/\s.h=h)
   ⟨[(0,y),(1,.R c 0),(3,((8*k:Nat):D)),(4,.v (.int .u64 0)),(5,((8*k:Nat):D))],h⟩:=by
 have a1:(An b).length=b.size:=by simp[An]
 refine Ab (min (8*k+8) (An b).length-8*k) (λj=>⟨[(0,y),(1,.R c 0),(3,((8*k:Nat):D)),(4,.v (.int .u64 (Iz (((An b).drop (8*k)).take j)))),(5,((8*k+j:Nat):D))],h⟩) (by simp[Iz]) ?_;intro j hj;have hw:IntKind.i64.wrap (8*(k:Int)+8)=8*k+8:=AS AE AE;simp only[Zw,BG 279 1,AB 279 5]
 try simp[AM]at hc
 simp[hw,hc];by_cases h1:8*k+j <min (8*k+8) (An b).length
 .have hi:8*k+j <(An b).length:=AE;obtain⟨G,J⟩:∃G,(An b)[8*k+j]?=some G:=⟨_,rW hi⟩;obtain⟨N,O⟩:=hb G (rY J);have hd:((An b).drop (8*k)).take (j+1)=((An b).drop (8*k)).take j++[G]:=by rw[rx];simp[J]
  have ht:(((An b).drop (8*k)).take j).length=j:=by simp only[sJ,List.length_drop];omega
  obtain⟨q1,q2⟩:=MU (An b) hb (8*k) j AE;have w4:IntKind.u64.wrap G=G:=BL AE AE;have Z:=QA (a:=Iz (((An b).drop (8*k)).take j)) (b:=G) (j:=j) AE q1 q2 N O;rw[if_pos (by split<;>omega),AD]
  have w1:IntKind.i64.wrap (8*(k:Int)+j-8*k)=j:=by rw[AS AE AE];omega
  have w2:IntKind.i64.wrap (8*(j:Int))=(8*j:Nat):=by rw[AS AE AE];rfl
  have w3:IntKind.i64.wrap (8*(k:Int)+j+1)=8*k+j+1:=AS AE AE;have x1:(8*(k:Int)+(j:Int)).toNat=8*k+j:=AE;have x2:0<=8*(k:Int)+(j:Int):=AE;obtain⟨c1,U,W⟩:∃c:UInt8,b[8*k+j]?=some c/\(c.toNat:Int)=G:=Rs J;simp only[AB 279 6,AB 279 7];have x3:(8*(j:Int)).toNat=8*j:=AE;simp[hc,x1,x2,w1,w2,w4,hd,Se,ht,x3,U,W,LP];refine⟨AE,?_⟩;simp[Z,w3]
  try omega
 .have a2:j=min (8*k+8) (An b).length-8*k:=AE;have e9:((An b).drop (8*k)).take j=((An b).drop (8*k)).take 8:=by
   rcases sL ((An b).length-8*k) 8 with h8|h8
   .rw[sN Dd,sN Dd]
   .rw[show j=8 by omega]
  rw[if_neg (by split<;>omega),AN]
  simp[e9]
def kz(b:ByteArray)(hb:∀x∈(An b),0<=x/\x <256)(hl:(An b).length<=2^40)(r c:Nat)(J:Nat->List Row)(hc:∀k,(J k)[c]?=some (.cells [.v (.str b)]))(hy:∀k w,(Au (An b))[k]?=some w->Ky Tryz.prog BK r [.v (.int .u64 w)] (J k) true (J (k+1))):
  FX 279 [.yld r,.R c 0] (J 0) [] (J (Au (An b)).length):=by
 have a1:(An b).length=b.size:=by simp[An]
 refine EH 279 ?_;have U:(Au (An b)).length=((An b).length+7)/8:=by simp[Au]
 simp only[As 279,AH,AJ,AY,AB 279 0,AZ];simp;refine Ab (Au (An b)).length (λk=>⟨[(0,.yld r),(1,.R c 0),(3,((8*k:Nat):D))],J k⟩) Ac ?_;intro k hk;simp only[Zw,BG 279 0,AB 279 1];have N:=hc k
 try simp[AM]at N
 simp[N];by_cases h1:8*k <(An b).length
 .rw[CF,AD];simp only[AB 279 3,AB 279 4];simp;refine Ap _ ?_ (gB b hb hl (.yld r) (J k) c (hc k) k h1);rintro e ⟨se,sh⟩ ⟨rfl,W,Z,f3,f4,rfl⟩;have G:k <(Au (An b)).length:=AE;have hw:(Au (An b))[k]?=some (Iz (((An b).drop (8*k)).take 8)):=by rw[rW G];simp[Au]
  have O:IntKind.i64.wrap (8*(k:Int)+8)=8*k+8:=AS AE AE;simp only[AB 279 8,AB 279 2];simp[W,Z,f3,f4,-Bool.exists_bool];refine⟨_,_,hy k _ hw,?_⟩;simp[AD,O,G];omega
 .rw[Bj,AN];have G:k=(Au (An b)).length:=AE;simp[AW 279,<-G]
end
section
def mj(b:ByteArray)(h:List Row):FX 189 [.v (.str b)] h [.func 279 [.R h.length 0]] (h++[.cells [.v (.str b)]]):=by refine EH 189 ?_;simp[As 189,awp,AB 189 0,AB 189 1,AW 189,AZ]
def kY(xs:List Int)(h:List Row):FX 296 [.v (AM .u8 xs)] h [.func 324 [.R h.length 0]] (h++[.cells [.v (AM .u8 xs)]]):=by refine EH 296 ?_;simp[As 296,awp,AB 296 0,AB 296 1,AW 296,AZ,AM]
def PP(b:ByteArray):∀x∈An b,0<=x/\x <256:=by intro x hx;simp only[An,rl]at hx;obtain⟨c,_,rfl⟩:=hx;have:=c.toNat_lt;omega
def nq(e0:CC)(G:List Row)(J:AK e0 5= .R G.length 0)(x:Row)(w s:Int):
  Ky Tryz.prog BK (G.length+2) [.v (.int .u64 w)] (G++[.cells [.v (.int .u64 s)],x,A5 Tryz.prog BK .ready e0 [11] (lG 96 0) (lG 96 1000)]) true (G++[.cells [.v (.int .u64 (EA s w))],x,A5 Tryz.prog BK .ready e0 [11] (lG 96 0) (lG 96 1000)]):=by
 refine CK (e0:=e0) (ps:=[11]) (asg:=(lG 96 0)) (body:=(lG 96 1000)) Ac rfl ?_;simp only[E5,BG 96 0,BG 96 1000,AJ,AY,AB 96 3,AB 96 4];simp[J];refine⟨_,_,(U6 s w).fsp _,?_⟩;simp[BH,AQ]
variable {s:St} {Q:AExit->St->Prop} {q:Opd}
def DN{P:Program}{GL:Ai}{ps:List Nat}{asg body:AC}(fid:Nat)(caps rets:List D)(G h':List Row)(tag:Tag)(U:Dn (q.ev s.e)=some (fid,caps))(O:s.h++[A5 P GL .ready (FI s.e) ps asg body]=G)(N:FSp P GL fid (.yld s.h.length::caps) G rets h')(W:h'[s.h.length]?=some (A5 P GL tag (FI s.e) ps asg body))(J:Cg Q ⟨s.e,h'.set s.h.length .dead⟩ tag):awp P GL (.rangeF q ps asg body) Q s:=by
 rw[Mw];exact⟨fid,caps,rets,h',tag,U,O▸N,W,J⟩
variable {k:Nat}
def Nv{α β:Type}(f:β->α->β)(G:β){l:List α}{x:α}(hx:l[k]?=some x):(l.take (k+1)).foldl f G=f ((l.take k).foldl f G) x:=by obtain⟨J,h2⟩:=rZ.1 hx;rw[tM J,tq,h2];rfl
theorem np(l:List Int)(U:l.length<=2^40)(a:D)(G:Int)(h:List Row)(xs:List Row):
  AX (.loop (lG 96 1)) (λe s=>e= .exit 2/\AK s.e 5= .R h.length 0/\s.h=h++ .cells [.v (.int .u64 (l.foldl (λs n=>EA s (IntKind.u64.wrap n)) G))]::xs)
   ⟨[(5,.R h.length 0),(24,.v (AM .i64 l)),(25,(l.length:D)),(26,((0:Int):D))],h++ .cells [.v (.int .u64 G)]::xs⟩:=by
 refine Ab l.length (λk=>⟨[(5,.R h.length 0),(24,.v (AM .i64 l)),(25,(l.length:D)),(26,(k:D))],h++ .cells [.v (.int .u64 ((l.take k).foldl (λs n=>EA s (IntKind.u64.wrap n)) G))]::xs⟩) Ac ?_;intro k O;simp only[Zw,BG 96 1,AB 96 7];simp[AM];by_cases J:k <l.length
 .have hx:l[k]?=some l[k]:=rW J;have N:=Bt k;rw[CF,AD];simp only[AB 96 8,AB 96 9,AB 96 10];simp[hx];refine⟨_,_,(U6 ((l.take k).foldl (λs n=>EA s (IntKind.u64.wrap n)) G) (IntKind.u64.wrap l[k])).fsp _,?_⟩;simp[J,N,AQ,Nv _ _ hx]
 .have:k=l.length:=AE;subst this;rw[Bj,AN];simp
theorem jA(b:ByteArray)(l:List Int)(W:b.size<=2^39)(J:l.length<=2^40):PX 96 [.str b,AM .i64 l] [.int .u64 (JO (An b) l)]:=by
 refine BS 96 ?_;have G:(An b).length=b.size:=by simp[An]
 simp only[As 96,AH,AJ,AY,AB 96 0,AB 96 1,AB 96 2,Ad];simp[AQ];refine⟨_,_,mj b _,?_⟩;simp;refine DN 279 [.R 1 0] [] _ _ .ready rfl rfl (kz b (PP b) AE 2 1 (λk=>[.cells [.v (.int .u64 (((Au (An b)).take k).foldl EA 0))],.cells [.v (.str b)],
  A5 Tryz.prog BK .ready (FI [(0,.v (.str b)),(1,.v (AM .i64 l)),(5,.R 0 0),(10,.func 279 [.R 1 0])]) [11] (lG 96 0) (lG 96 1000)]) Ac ?_) rfl ?_
 .intro k w N;have:=nq (FI [(0,.v (.str b)),(1,.v (AM .i64 l)),(5,.R 0 0),(10,.func 279 [.R 1 0])]) [] rfl (.cells [.v (.str b)]) w (((Au (An b)).take k).foldl EA 0);rw[Nv _ _ N];exact this
 .have O:IntKind.u64.wrap (b.size:Int)=b.size:=BL AE AE;have U:IntKind.u64.wrap (l.length:Int)=l.length:=BL AE AE;simp only[Cg,AB 96 5];simp[O];refine⟨_,_,(U6 ((Au (An b)).foldl EA 0) b.size).fsp _,?_⟩;simp[AM,U];refine⟨_,_,(U6 (EA ((Au (An b)).foldl EA 0) b.size) l.length).fsp _,?_⟩;simp[AB 96 6,AQ];refine Ap _ ?_ (np l J .any (EA (EA ((Au (An b)).foldl EA 0) b.size) l.length) [] _);rintro e ⟨Z,sh⟩ ⟨rfl,f5,rfl⟩;simp at f5;simp[AB 96 11,f5];refine⟨_,_,(U6 _ 0).fsp _,?_⟩;simp[AA,AW 96,JO,G]
end
def Jr(label bs:List Int):Int:=JO label ((Au bs).map IntKind.i64.wrap++[(bs.length:Int)])
def gD(e0:CC)(N:AK e0 5= .R 0 0)(x:Row)(w:Int)(J:List Int)(O:J.length<=2^40):
  Ky Tryz.prog BK 2 [.v (.int .u64 w)] [.cells [.W 3 1 (J.map (.int .i64))],x,A5 Tryz.prog BK .ready e0 [9] (lG 234 0) (lG 234 1000)] true [.cells [.W 3 1 ((J++[IntKind.i64.wrap w]).map (.int .i64))],x,A5 Tryz.prog BK .ready e0 [9] (lG 234 0) (lG 234 1000)]:=by
 refine CK (e0:=e0) (ps:=[9]) (asg:=(lG 234 0)) (body:=(lG 234 1000)) Ac rfl ?_;have G:AV (J.length+1) 8=true:=by simp[AV];omega
 simp only[E5,BG 234 0,BG 234 1000,AJ,AY,AB 234 3,AB 234 4];simp[N,G,AQ,EC,BH]
def mB(b:ByteArray)(xs:List Int)(hx:∀x∈xs,0<=x/\x <256)(O:b.size<=2^39)(hl:xs.length<=2^39):PX 234 [.str b,AM .u8 xs] [.int .u64 (Jr (An b) xs)]:=by
 refine BS 234 ?_;have U:(Au xs).length=(xs.length+7)/8:=by simp[Au]
 simp only[As 234,AH,AJ,AY,AB 234 0,AB 234 1,AB 234 2,Ad];simp;refine⟨_,_,kY xs _,?_⟩;simp;refine DN 324 [.R 1 0] [] _ _ .ready rfl rfl (kG xs hx AE 2 1 (λk=>[.cells [.W 3 1 ((((Au xs).take k).map IntKind.i64.wrap).map (.int .i64))],.cells [.v (AM .u8 xs)],
  A5 Tryz.prog BK .ready (FI [(0,.v (.str b)),(1,.v (AM .u8 xs)),(5,.R 0 0),(8,.func 324 [.R 1 0])]) [9] (lG 234 0) (lG 234 1000)]) Ac ?_) rfl ?_
 .intro k w N;have Z:=(rZ.1 N).1;have:=gD (FI [(0,.v (.str b)),(1,.v (AM .u8 xs)),(5,.R 0 0),(8,.func 324 [.R 1 0])]) rfl (.cells [.v (AM .u8 xs)]) w (((Au xs).take k).map IntKind.i64.wrap) Dd;have e:((Au xs).take (k+1)).map IntKind.i64.wrap=((Au xs).take k).map IntKind.i64.wrap++[IntKind.i64.wrap w]:=by rw[rx,N];simp
  rw[e];exact this
 .simp only[Cg,AB 234 5];have G:AV ((Au xs).length+1) 8=true:=by simp[AV];omega
  simp[AM,G];have W:=jA b ((Au xs).map IntKind.i64.wrap++[(xs.length:Int)]) O Dd;have J:=W.fsp;simp[AM]at J;refine⟨_,_,J _,?_⟩;simp[AA,AW 234,Jr]
def l0(b:ByteArray)(xs:List Int)(hx:∀x∈xs,0<=x/\x <256)(Z:b.size<=2^39)(hl:xs.length<=2^39):PX 236 [.str b,AM .u8 xs] [.int .u64 (Jr (An b) xs)]:=by
 refine BS 236 ?_;have a1:(Au xs).length=(xs.length+7)/8:=by simp[Au]
 simp only[As 236,AH,AJ,AY,AB 236 0,AB 236 1,AB 236 2,AB 236 3,Ad];simp;refine⟨_,_,(eJ xs hx AE).fsp _,?_⟩;simp;refine Ab (Au xs).length (λk=>⟨[(0,.v (.str b)),(1,.v (AM .u8 xs)),(5,.v (AM .u64 (Au xs))),(6,.W 3 1 ((((Au xs).take k).map IntKind.i64.wrap).map (.int .i64))),(7,(k:D))],[]⟩) Ac ?_;intro k hk;simp only[Zw,BG 236 0,AB 236 4];simp[AM];by_cases W:k <(Au xs).length
 .obtain⟨w,N⟩:∃w,(Au xs)[k]?=some w:=⟨_,rW W⟩;have O:=Bt k;have e:((Au xs).take (k+1)).map IntKind.i64.wrap=((Au xs).take k).map IntKind.i64.wrap++[IntKind.i64.wrap w]:=by rw[rx,N];simp
  have G:AV (min k (Au xs).length+1) 8=true:=by simp[AV];omega
  rw[CF,AD];simp only[AB 236 5,AB 236 6];have U:=(rZ.1 N).2;simp[G,EC,W,O,U];rw[rx,rk,N];simp
 .have:k=(Au xs).length:=AE;subst this;rw[Bj,AN];have G:AV ((Au xs).length+1) 8=true:=by simp[AV];omega
  have hp:=dA b ((Au xs).map IntKind.i64.wrap++[(xs.length:Int)]) Z Dd;have J:=hp.fsp;simp[AM]at J;have e6:List.take (Au xs).length (List.map (V.int IntKind.i64 ∘ IntKind.i64.wrap) (Au xs))=List.map (V.int IntKind.i64 ∘ IntKind.i64.wrap) (Au xs):=sN Ac;simp[AB 236 7,G,e6];refine⟨_,_,J _,?_⟩;simp[AA,AW 236,Jr]
section
variable {b f m n r:Nat} {μ:List Nat} {u:Value} {d:D} {g:Gh} {args ds rets:List D} {h h':List Row}
section
variable {P:Program} {GL:Ai}
def Row.low(n:Nat):Row->Bool
 | .cells ds=>D.lts n ds
 | .map _ _ _=>true
 | .dead=>true
 | .obj _ _ _=>false
theorem FG(h:n<=m):∀d:D,D.lt n d=true->D.lt m d=true:=by
 intro d;refine D.rec (motive_1:=λd=>D.lt n d=true->D.lt m d=true) (motive_2:=λl=>D.lts n l=true->D.lts m l=true) ?_ ?_ ?_ ?_ ?_ ?_ ?_ ?_ ?_ ?_ ?_ ?_ ?_ ?_ ?_ ?_ d
 all_goals simp only[D.lt,D.lts,decide_eq_true_eq,rX,implies_true,true_implies,imp_self]
 all_goals first
  |(intros;omega)
  |(intro a b J N G;exact⟨J G.1,N G.2⟩)
  |(intros;assumption)
  |skip
def Ht(h:μ[r]?=some b)(G:r <n):(μ.take n)[r]?=some b:=by rw[sP,if_pos G];exact h
def GC{n:Nat}:∀{ds:List D}{i:Nat}{d:D},D.lts n ds=true->ds[i]?=some d->D.lt n d=true
 |d::ds,i,x,h,hi=>by
  simp only[D.lts,rX]at h;cases i with
  |zero=>simp at hi;subst hi;exact h.1
  |succ i=>exact GC h.2 (by simpa using hi)
theorem RepC.low(h:RepC g μ d u)(J:D.lt n d=true):RepC g (μ.take n) d u:=by
 cases d<;>simp only[RepC]at h ⊢
 .exact h
 .obtain⟨b,G,rfl⟩:=h;exact⟨b,Ht G (by simpa[D.lt]using J),rfl⟩
theorem RepE.low{g:Gh}{w:World}{μ:List Nat}{n:Nat}{d:D}{u:Value}(h:RepE g w μ d u)(J:D.lt n d=true):RepE g w (μ.take n) d u:=by
 cases d<;>simp only[RepE]at h ⊢ <;>try exact h
 .obtain⟨b,G,rfl⟩:=h;exact⟨b,Ht G (by simpa[D.lt]using J),rfl⟩
 .obtain⟨b,cap,G,rfl,O⟩:=h;exact⟨b,cap,Ht G (by simpa[D.lt]using J),rfl,O⟩
 .obtain⟨b,G,rfl⟩:=h;exact⟨b,Ht G (by simpa[D.lt]using J),rfl⟩
 .obtain⟨vs,rfl,h⟩:=h;exact⟨vs,rfl,h.1,λi x v hx N=>(h.2 i x v hx N).low (GC (by simpa[D.lt]using J) hx)⟩
 .obtain⟨vs,rfl,h⟩:=h;exact⟨vs,rfl,h.1,λi x v hx N=>(h.2 i x v hx N).low (GC (by simpa[D.lt]using J) hx)⟩
 .obtain⟨b,G,rfl⟩:=h;exact⟨b,Ht G (by simpa[D.lt]using J),rfl⟩
def RepG.low{g:Gh}{w:World}{μ:List Nat}{n:Nat}{d:D}{u:Value}(h:RepG g w μ d u)(G:D.lt n d=true):RepG g w (μ.take n) d u:=by
 cases d<;>simp only[RepG]at h ⊢ <;>first
  |exact h.low G
  |(obtain⟨vs,rfl,h,J,h2⟩:=h
    exact⟨vs,rfl,⟨h.1,λi x v hx N=>(h.2 i x v hx N).low (GC (by simpa[D.lt]using G) hx)⟩,J,h2⟩)
def RepD.low{g:Gh}{w:World}{μ:List Nat}{n:Nat}{d:D}{u:Value}(h:RepD g w μ d u)(G:D.lt n d=true):RepD g w (μ.take n) d u:=by
 cases d<;>simp only[RepD]at h ⊢ <;>first
  |exact h.low G
  |(obtain⟨vs,rfl,h⟩:=h
    exact⟨vs,rfl,h.1,λi x v hx J=>(h.2 i x v hx J).low (GC (by simpa[D.lt]using G) hx)⟩)
theorem Inv.low{g:Gh}{w:World}{μ:List Nat}{t:Nat->D}{u:Nat->Value}{h J:List Row}{O:Nat->Prop}(hi:Inv g w μ t u (h++J) O)(ht:∀n,D.lt h.length (t n)=true)(hh:∀row∈h,Row.low h.length row=true):
  Inv g w (μ.take h.length) t u h O:=by
 have a6:(μ.take h.length).length=h.length:=by have:=hi.len;simp at this ⊢;omega
 have Bz:∀{r b:Nat},(μ.take h.length)[r]?=some b->r <h.length/\μ[r]?=some b:=by
  intro r b U;rw[sP]at U;split at U
  .exact⟨‹_›,U⟩
  .cases U
 have G:∀p b,Cm t u h w (μ.take h.length) p=some b->Cm t u (h++J) w μ p=some b:=by
  intro p b W;cases p with
  |tmp n k=>exact W
  |cell r k=>
   simp only[Cm]at W ⊢;by_cases hr:r <h.length
   .have e1:BJ (h++J) r k=BJ h r k:=by simp only[BJ,sI hr]
    have e2:BT w (μ.take h.length) r k=BT w μ r k:=by simp only[BT,sP,if_pos hr]
    rw[e1,<-e2];exact W
   .simp only[BJ,sU (show h.length<=r by omega)]at W;simp[Am]at W
 refine⟨hi.agree,hi.olt,λn=>(hi.rep n).low (ht n),a6,?_,?_,?_,λp q b W hq=>hi.uniq p q b (G p b W) (G q b hq),?_⟩
 .intro r row b hr U;obtain⟨a1,U⟩:=Bz U;have N:=hi.rows r row b (by rw[sI a1];exact hr) U;have Z:=hh row (rY hr);cases row with
  |cells ds=>
   obtain⟨vs,T,h1,h2,h3,h4⟩:=N;exact⟨vs,T,h1,⟨h2.1,λi x v hx hv=>(h2.2 i x v hx hv).low (GC Z hx)⟩,h3,h4⟩
  |map es st ck=>exact N
  |obj tag p m=>simp[Row.low]at Z
  |dead=>exact N
 .intro r r' b hr a2;exact hi.nod r r' b (Bz hr).2 (Bz a2).2
 .intro b U;exact hi.mo b (s9 U)
 .intro p b W;obtain⟨h1,h2⟩:=hi.sep p b (G p b W);exact⟨λhm=>h1 (s9 hm),h2⟩
def VI(h:D.lt n d=true)(k:Nat):D.lt n (Hc .any d k)=true:=by
 simp only[Hc];split
 .exact h
 .rfl
def Fb{n:Nat}:∀{ds:List D},(∀d∈ds,D.lt n d=true)->D.lts n ds=true
 |[],_=>rfl
 |d::ds,h=>by simp only[D.lts,rX];exact⟨h d Ac,Fb λx hx=>h x (by simp[hx])⟩
theorem QL(h:∀d∈ds,D.lt n d=true):D.lt n (Bp ds)=true:=by
 match ds with
 |[]=>rfl
 |[x]=>exact h x Ac
 |x::y::r=>simp only[Bp,D.lt];exact Fb h
theorem At{G:AC}{rs:List AR}(Z:DD P GL f n G rs=true)(hn:args.length=n)(hl:h.length<=h'.length)(W:∀row∈h',Row.low h'.length row=true)(hr:∀d∈rets,D.lt h'.length d=true)(hw:awp P GL G (λe s=>(match e with| .exit _=>False|_=>True)/\Dg s rs=some rets/\∃J,s.h=h'++J) ⟨AZ args,h⟩):FSp P GL f args h rets h':=by
 refine Ki (HH (rets:=rets) (h':=h') Z hn (Ap G (λe s=>by
  rintro⟨N,h2,J,U⟩;refine⟨N,rets,h2,λg w μ v O hi=>⟨g,μ.take h'.length,λμ0 hμ0 ⟨tl,hp⟩=>?_,?_,Chg.refl _ _ _⟩⟩
  .subst hp;rw[List.take_append,sN AE];exact tS _ _
  .rw[U]at hi;exact hi.low (VI (QL hr)) W) hw))
end
end
def Af(a n:Int):Int:=if a <0 then (IntKind.i64.wrap (0-IntKind.i64.wrap (a+1))).tmod n else a.tmod n
def LZ(a n:Int)(J:n≠0):PX 11 [a,n] [((Af a n:Int):V)]:=by refine BS 11 ?_;unfold Af;by_cases G:a <0<;>simp[As 11,awp,AB 11 0,AB 11 1,AB 11 2,AB 11 3,AW 11,Ad,G,J]
def Aq(l:List Int)(i n:Int):Int:=if i <0 then 0 else match l[i.toNat]? with|some x=>Af x n|none=>0
def SR(l:List Int)(i n:Int)(O:n≠0):PX 47 [AM .i64 l,i,n] [((Aq l i n:Int):V)]:=by
 refine BS 47 ?_;unfold Aq;by_cases G:i <0
 .simp[As 47,awp,AB 47 0,AB 47 1,AB 47 2,AW 47,Ad,G,AM]
 .by_cases h2:(l.length:Int)<=i
  .have:l[i.toNat]?=none:=by rw[List.getElem?_eq_none_iff];omega
   simp[As 47,awp,AB 47 0,AB 47 1,AB 47 2,AW 47,Ad,G,h2,AM,this]
  .have J:i.toNat <l.length:=AE;have hx:l[i.toNat]?=some l[i.toNat]:=rW J;have N:0<=i:=AE;simp[As 47,awp,AB 47 0,AB 47 1,AB 47 3,AW 47,Ad,G,h2,AM,hx,N,V.cells,Dn,D.norm,A9,D.arg];refine⟨_,⟨_,(LZ l[i.toNat] n O).fsp []⟩,?_⟩;simp[Bp]
section
def DO(xs:List Int):Row:= .cells [.v (AM .u8 xs),.v (.int .i64 0)]
def jv(xs:List Int)(G:xs.length<=2^45)(h:List Row):FX 44 [.v (AM .u8 xs)] h [.R h.length 0] (h++[DO xs]):=by refine EH 44 ?_;simp[As 44,awp,AB 44 0,AB 44 1,AW 44,AZ];refine⟨_,_,(eZ xs G h),?_⟩;simp[DO,AM,AQ,D.toRow]
def nY(n:Int)(hn:i64 n):PX 118 [.int .u64 (Ip n)] [(n:V)]:=by
 refine BS 118 ?_;unfold i64 at hn;unfold Ip;have O:((2:Int)^IntKind.u64.bits)=18446744073709551616:=Ah;have e2:((2:Int)^IntKind.i64.bits)=18446744073709551616:=Ah;have U:((1:Int)%18446744073709551616).toNat=1:=Ah;have W:(2:Int)^min 1 IntKind.u64.bits=2:=Ah;by_cases Z:n <0
 .simp[As 118,awp,AB 118 0,AB 118 1,AW 118,Ad,Z];have d1:(2* -(n+1)+1).fdiv (2^min 1 IntKind.u64.bits)= -(n+1):=by rw[W,ua _ Ah];omega
  have G:((2* -(n+1)+1)%18446744073709551616).toNat%2=1:=AE;rw[d1,O,e2,U,Nat.and_one_is_mod,G,AS (a:= -(n+1)) AE AE];have J:IntKind.i64.wrap (-IntKind.i64.wrap (IntKind.u64.wrap ((1:Nat):Int)))= -1:=Ah;rw[J];have N:((-1:Int)%18446744073709551616).toNat=2^64-1:=Ah;rw[N,Pc _ AE];have d5:((2^64-1-(-(n+1)%18446744073709551616).toNat:Nat):Int)=n+18446744073709551616:=AE;rw[d5];have:IntKind.i64.wrap (n+18446744073709551616)=n:=by unfold IntKind.wrap;simp only[IntKind.bits,IntKind.signed];have e5:((2:Int)^64)=18446744073709551616:=Ah;simp only[e5];simp;omega
  exact this
 .simp[As 118,awp,AB 118 0,AB 118 1,AW 118,Ad,Z];have d1:(2*n).fdiv (2^min 1 IntKind.u64.bits)=n:=by rw[W,ua _ Ah];omega
  have G:((2*n)%18446744073709551616).toNat%2=0:=AE;rw[d1,O,e2,U,Nat.and_one_is_mod,G,AS (a:=n) AE AE];have J:IntKind.i64.wrap (-IntKind.i64.wrap (IntKind.u64.wrap ((0:Nat):Int)))=0:=Ah;rw[J];have N:((0:Int)%18446744073709551616).toNat=0:=Ah;rw[N,Nat.xor_zero,AS AE AE];omega
def dw(c:Int)(xs:List Int)(h:List Row)(r:Nat)(J:h[r]?=some (DO (c::xs))):FX 203 [.R r 0] h [.v (.int .u8 c)] (h.set r (DO xs)):=by refine EH 203 ?_;have G:¬((xs.length:Int)+1=0):=AE;simp[As 203,awp,AB 203 0,AB 203 1,AB 203 3,AB 203 5,AB 203 6,AB 203 7,AW 203,AZ,J,DO,AM,G];simp[AQ]
variable {c:Int}
def WR(G:0<=c)(J:c <256):IntKind.u8.wrap (((c%2^IntKind.u8.bits).toNat &&& 2^IntKind.u8.bits-1-128%2^IntKind.u8.bits:Nat):Int)=c%128:=by
 have key:∀m:Fin 256,IntKind.u8.wrap ((((m.val:Int)%2^IntKind.u8.bits).toNat &&& 2^IntKind.u8.bits-1-128%2^IntKind.u8.bits:Nat):Int)=(m.val:Int)%128:=by decide+kernel
 have:=key ⟨c.toNat,AE⟩;simpa only[vL G]using this
variable {i:Nat}
def Z7{a b:Int}(N:0<=a)(O:a <2^i)(h2:0<=b)(U:a+b*2^i <18446744073709551616):
  (a.toNat ||| (b*2^i).toNat:Nat)=(a+b*2^i).toNat:=by
 have G:(b*2^i).toNat=2^i*b.toNat:=by
  obtain⟨m,rfl⟩:=Int.eq_ofNat_of_zero_le h2;have:((m:Int)*2^i)=((2^i*m:Nat):Int):=by push_cast;rw[sX]
  rw[this,tu,tu]
 have e2:a.toNat <2^i:=by
  have:((2^i:Nat):Int)=2^i:=by push_cast;rfl
  omega
 rw[G,Nat.or_comm,<-Nat.two_pow_add_eq_or_of_lt e2];have J:((2^i*b.toNat:Nat):Int)=b*2^i:=by rw[<-G];exact vL (uE h2 (u0 (sR Ah)))
 omega
variable {r:Nat} {h:List Row} {Q:AExit->St->Prop}
def bp{acc:Int}{xs:List Int}(hr:h[r]?=some (DO (c::xs)))(hc:0<=c/\c <256)(hi:i<=9)(h9:¬(i=9/\1 <c))(h0:¬(0 <i/\c=0))(U:0<=acc/\acc <128^i)(hs:acc+(c%128)*128^i <18446744073709551616)(G:c <128->Q .ret ⟨[(2,.v (.int .u64 (acc+c*128^i)))],h.set r (DO xs)⟩)(W:128<=c->Q .normal ⟨[(0,.R r 0),(3,.v (.int .u64 (acc+(c%128)*128^i))),(4,.v (.int .i64 (i+1)))],h.set r (DO xs)⟩):
  AX (lG 119 0) Q ⟨[(0,.R r 0),(3,.v (.int .u64 acc)),(4,.v (.int .i64 i))],h⟩:=by
 simp only[Zw,BG 119 0,AB 119 3];simp[hr,DO,AM,AD];simp only[AB 119 5];simp;refine⟨_,_,(dw c xs h r hr),?_⟩;have hj:i=9/\¬1 <c/\¬c=0\/i=0\/(0 <i/\¬i=9/\¬c=0):=AE;have a1:=WR hc.1 hc.2;have a2:IntKind.u64.wrap (c%128)=c%128:=BL AE AE;have a3:IntKind.i64.wrap (7*(i:Int))=7*i:=AS AE AE;have a6:=Bt i;have O:((2:Int)^IntKind.u64.bits)=18446744073709551616:=Ah;have k3:0<=7*(i:Int):=AE;have RJ:(128:Int)^i=2^(7*i):=by rw[Int.pow_mul];rfl
 have J:0<=c%128*128^i:=uE AE (u0 (sR Ah));have a4:IntKind.u64.wrap (c%128*2^min (7*(i:Int)).toNat IntKind.u64.bits)=c%128*128^i:=by
  have:min (7*(i:Int)).toNat IntKind.u64.bits=7*i:=by have:(7*(i:Int)).toNat=7*i:=AE;rw[this];exact tY (by show 7*i<=64;omega)
  rw[this,<-RJ,BL J AE]
 have a5:IntKind.u64.wrap (((acc%2^IntKind.u64.bits).toNat ||| (c%128*128^i%2^IntKind.u64.bits).toNat:Nat):Int)=acc+c%128*128^i:=by rw[O,Int.emod_eq_of_lt U.1 AE,Int.emod_eq_of_lt J AE];rw[RJ]at hs ⊢;rw[Z7 U.1 (by rw[<-RJ];exact U.2) AE hs,vL (by rw[<-RJ];omega),BL (by rw[<-RJ];omega) hs]
 have tail:∀x:D,Bd Tryz.prog BK (oG 119 8) (λs'=>Bd Tryz.prog BK (oG 119 9) (λs'=>match (AK s'.e 47).copy with
   | .v (.bool t)=>if t=true then Bd Tryz.prog BK (oG 119 10) (λs'=>Q .ret ⟨[(2,AK s'.e 2)],s'.h⟩) ⟨[(0,AK s'.e 0),(3,AK s'.e 3),(4,AK s'.e 4),(47,AK s'.e 47)],s'.h⟩
    else Bd Tryz.prog BK (oG 119 4) (λs'=>Q .normal ⟨[(0,AK s'.e 0),(3,AK s'.e 3),(4,AK s'.e 4)],s'.h⟩) ⟨[(0,AK s'.e 0),(3,AK s'.e 3),(4,AK s'.e 4),(47,AK s'.e 47)],s'.h⟩
   |_=>False) ⟨[(0,AK s'.e 0),(3,AK s'.e 3),(4,AK s'.e 4),(5,AK s'.e 5)],s'.h⟩) ⟨[(0,.R r 0),(3,.v (.int .u64 acc)),(4,.v (.int .i64 i)),(5,.v (.int .u8 c)),(28,x)],h.set r (DO xs)⟩:=by
  intro x;simp only[AB 119 8];simp[a1,a2,a3,k3,a4,a5];simp only[AB 119 9];by_cases Z:c <128
  .have hm:c%128=c:=AE;simp[Z,CY hr,DO,AM];simp only[AB 119 10];simp;rw[hm];exact G Z
  .simp[Z,DO,AM];simp only[AB 119 4];simp[a6];exact W AE
 rcases hj with ⟨j0,j1,j2⟩|j0|⟨j0,j1,j2⟩
 .have N:((i:Int)=9)=True:=eq_true AE;have k2:0 <i:=AE;simp only[AB 119 6];simp[N,k2,j1,j2];exact tail _
 .have N:((i:Int)=9)=False:=eq_false AE;have k2:¬0 <i:=AE;simp only[AB 119 6];simp[N,k2];exact tail _
 .have N:((i:Int)=9)=False:=eq_false AE;simp only[AB 119 6];simp[N,j0,j2];exact tail _
theorem oa(k:Nat):∀(m acc:Int)(i:Nat)(h:List Row)(r:Nat)(G:List Int),i+k=9->0<=acc->acc <128^i->0<=m->m <128^(k+1)->acc+m*128^i <18446744073709551616->(0 <i->0 <m)->
  h[r]?=some (DO (Dq k m++G))->
  AX (.loop (lG 119 0)) (λe s=>e= .ret/\s=⟨[(2,.v (.int .u64 (acc+m*128^i)))],h.set r (DO G)⟩) ⟨[(0,.R r 0),(3,.v (.int .u64 acc)),(4,(i:D))],h⟩:=by
 induction k with
 |zero=>
  intro m acc i h r G a6 J N U a1 hs h0 Z;obtain rfl:i=9:=AE;have e9:(128:Int)^9=9223372036854775808:=Ah;have e1:(128:Int)^(0+1)=128:=Ah;rw[e9]at hs N;have W:m%128=m:=AE;refine Av (bp (c:=m) (xs:=G) Z ⟨U,AE⟩ AE AE (by have:=h0 AE;omega) ⟨J,by rw[e9];exact N⟩ (by rw[W,e9];exact hs) (λ_=>⟨rfl,rfl⟩) (λh=>AE))
 |succ k ih=>
  intro m acc i h r G a6 J N U a1 hs h0 Z;have hp:(0:Int) <128^i:=sR Ah;by_cases hl:m <128
  .have W:m%128=m:=AE;rw[show Dq (k+1) m=[m] by simp[Dq,hl]]at Z;refine Av (bp (c:=m) (xs:=G) Z ⟨U,AE⟩ AE AE (λhh=>by have:=h0 hh.1;omega) ⟨J,N⟩ (by rw[W];exact hs) (λ_=>⟨rfl,rfl⟩) (λh=>AE))
  .rw[show Dq (k+1) m=(128+m%128)::Dq k (m/128) by simp[Dq,hl]]at Z;have hc:(128+m%128)%128=m%128:=AE;have a8:(128:Int)^(i+1)=128^i*128:=sb ..;have b0:(m%128)*128^i<=m*128^i:=tJ AE (u0 hp);have O:acc+(m%128)*128^i+(m/128)*128^(i+1)=acc+m*128^i:=by
    have:m*128^i=(m%128+128*(m/128))*128^i:=by rw[Int.emod_add_mul_ediv]
    rw[this,a8,uS];have:m/128*(128^i*128)=128*(m/128)*128^i:=by rw[sX (128^i) 128,<-si,sX (m/128) 128]
    omega
   have a7:acc+(m%128)*128^i <128^(i+1):=by have:(m%128)*128^i<=127*128^i:=tJ AE (u0 hp);omega
   have a2:m/128 <128^(k+1):=vF Ah (by rw[<-sb];exact a1);have h2:=ih (m/128) (acc+(m%128)*128^i) (i+1) (h.set r (DO (Dq k (m/128)++G))) r G AE (Int.add_nonneg J (uE AE (u0 hp))) a7 AE a2 (by rw[O];exact hs) AE (CY Z);rw[O,tm]at h2;refine Bu (s1:=⟨[(0,.R r 0),(3,.v (.int .u64 (acc+(m%128)*128^i))),(4,(((i+1:Nat):Int):D))],h.set r (DO (Dq k (m/128)++G))⟩) ?_ h2;refine bp (c:=128+m%128) Z ⟨AE,AE⟩ AE AE AE ⟨J,N⟩ (by rw[hc];omega) (λh=>AE) (λ_=>?_);rw[hc,tN];rfl
def Z0(n:Int)(J:u64 n)(h:List Row)(r:Nat)(G:List Int)(U:h[r]?=some (DO (Fk n++G))):FX 119 [.R r 0] h [.v (.int .u64 n)] (h.set r (DO G)):=by refine EH 119 ?_;unfold u64 at J;have O:(128:Int)^(9+1)=1180591620717411303424:=Ah;have N:=oa 9 n 0 0 h r G AE AE Ah J.1 AE (by simpa using J.2) AE U;simp only[As 119,AH,AY,AJ,AB 119 0,AB 119 1,AB 119 2,AZ];simp;simp at N;refine Ew N ?_;simp[AW 119]
end
def M9(n:Int)(J:i64 n)(h:List Row)(r:Nat)(G:List Int)(N:h[r]?=some (DO (Aj n++G))):FX 45 [.R r 0] h [(n:D)] (h.set r (DO G)):=by refine EH 45 ?_;simp[As 45,awp,AB 45 0,AB 45 1,AW 45,AZ];refine⟨_,_,(Z0 (Ip n) (Hr J) h r G N),?_⟩;simp;refine⟨_,(nY n J).fsp _,?_⟩;simp
def IW:∀(k:Nat)(n:Int),1<=(Dq k n).length
 |0,n=>by simp[Dq]
 |k+1,n=>by simp only[Dq];split<;>simp
def Fc:∀l:List Int,l.length<=(l.flatMap Aj).length
 |[]=>Ac
 |x::l=>by have:=IW 9 (Ip x);have:=Fc l;simp only[r7,re,sF,Aj,Fk]at *;omega
def mY(xs:List Int)(h:List Row)(r:Nat)(G:List Int)(hb:xs.length+G.length<=2^44)(O:h[r]?=some (DO (BR xs++G))):
  FX 202 [.R r 0,.meth 203 [.R r 0]] h [.W 5 1 (xs.map (.int .u8))] (h.set r (DO G)):=by
 refine EH 202 ?_;have w1:∀n:Int,0<=n->n<=2^50->IntKind.u64.wrap n=n:=λn h0 hn=>BL AE AE;simp only[As 202,AH,AY,AJ,AB 202 0,AB 202 1,AZ];simp;refine⟨_,_,(Z0 xs.length ⟨AE,AE⟩ h r (xs++G) (by simpa[BR,BI]using O)),?_⟩;simp only[AJ,AO,AB 202 2];have a1:xs.length<=(xs).length:=by exact ri _
 have W:(xs).length<=10*xs.length:=AE;have w2:IntKind.u64.wrap ((xs).length+G.length:Int)=(xs).length+G.length:=w1 _ AE AE;have N:¬(((xs).length+G.length:Int) <xs.length):=AE;generalize hX:xs=X at w2 N;simp[CY O,DO,AM,w2,N,AD];subst hX;simp only[AB 202 4,AB 202 5];simp;refine Ab xs.length (λk=>⟨[(0,.R r 0),(1,.meth 203 [.R r 0]),(5,.v (.int .u64 xs.length)),(6,.W 5 1 ((xs.take k).map (.int .u8))),(7,.v (.int .u64 k))],h.set r (DO ((xs.drop k)++G))⟩) (by simp[DO,AM]) ?_;intro k hk;simp only[Zw,BG 202 0,AB 202 6];by_cases U:k <xs.length
 .have hd:xs.drop k=xs[k]::xs.drop (k+1):=tn U;simp[CY O,DO,U,AD];simp only[AB 202 8];simp;refine⟨_,_,(dw xs[k] (xs.drop (k+1)++G) _ r (by rw[CY O,hd];rfl)),?_⟩;have J:AV (k+1) 1=true:=by simp[AV];omega
  have ht:min k xs.length=k:=AE;simp[ht,J];simp only[AB 202 7];have w3:IntKind.u64.wrap ((k:Int)+1)=k+1:=w1 _ AE AE;have Z:(xs.map (V.int .u8)).take (k+1)=(xs.map (V.int .u8)).take k++[V.int .u8 xs[k]]:=by rw[<-sQ,<-sQ,tM U,r9];rfl
  simp[w3,DO,Z]
 .have:k=xs.length:=AE;subst this;simp[DO,AN];simp only[AB 202 9];simp[CY O];simp only[AB 202 11];simp[AW 202,AA,AM]
def mW(xs:List Int)(hi:∀n∈xs,i64 n)(h:List Row)(r:Nat)(G:List Int)(hb:xs.length+G.length<=2^44)(O:h[r]?=some (DO (BI xs++G))):
  FX 206 [.R r 0,.meth 45 [.R r 0]] h [.W 3 1 (xs.map (.int .i64))] (h.set r (DO G)):=by
 refine EH 206 ?_;have w1:∀n:Int,0<=n->n<=2^50->IntKind.u64.wrap n=n:=λn h0 hn=>BL AE AE;simp only[As 206,AH,AY,AJ,AB 206 0,AB 206 1,AZ];simp;refine⟨_,_,(Z0 xs.length ⟨AE,AE⟩ h r ((xs).flatMap Aj++G) (by simpa[BR,BI]using O)),?_⟩;simp only[AJ,AO,AB 206 2];have a1:xs.length<=((xs).flatMap Aj).length:=by exact Fc xs
 have W:((xs).flatMap Aj).length<=10*xs.length:=by exact CQ xs
 have w2:IntKind.u64.wrap (((xs).flatMap Aj).length+G.length:Int)=((xs).flatMap Aj).length+G.length:=w1 _ AE AE;have N:¬((((xs).flatMap Aj).length+G.length:Int) <xs.length):=AE;generalize hX:(xs).flatMap Aj=X at w2 N;simp[CY O,DO,AM,w2,N,AD];subst hX;simp only[AB 206 4,AB 206 5];simp;refine Ab xs.length (λk=>⟨[(0,.R r 0),(1,.meth 45 [.R r 0]),(5,.v (.int .u64 xs.length)),(6,.W 3 1 ((xs.take k).map (.int .i64))),(7,.v (.int .u64 k))],h.set r (DO (((xs.drop k)).flatMap Aj++G))⟩) (by simp[DO,AM]) ?_;intro k hk;simp only[Zw,BG 206 0,AB 206 6];by_cases U:k <xs.length
 .have hd:xs.drop k=xs[k]::xs.drop (k+1):=tn U;simp[CY O,DO,U,AD];simp only[AB 206 8];simp;refine⟨_,_,(M9 xs[k] (hi _ (sy U)) _ r ((xs.drop (k+1)).flatMap Aj++G) (by rw[CY O,hd,r7,rn];rfl)),?_⟩;have J:AV (k+1) 8=true:=by simp[AV];omega
  have ht:min k xs.length=k:=AE;simp[ht,J];simp only[AB 206 7];have w3:IntKind.u64.wrap ((k:Int)+1)=k+1:=w1 _ AE AE;have Z:(xs.map (V.int .i64)).take (k+1)=(xs.map (V.int .i64)).take k++[V.int .i64 xs[k]]:=by rw[<-sQ,<-sQ,tM U,r9];rfl
  simp[w3,DO,Z]
 .have:k=xs.length:=AE;subst this;simp[DO,AN];simp only[AB 206 9];simp[CY O];simp only[AB 206 11];simp[AW 206,AA,AM]
def ed(xs:List Int)(h:List Row)(r:Nat)(G:List Int)(J:xs.length+G.length<=2^44)(N:h[r]?=some (DO (BR xs++G))):FX 112 [.R r 0] h [.W 5 1 (xs.map (.int .u8))] (h.set r (DO G)):=by refine EH 112 ?_;simp[As 112,awp,AB 112 0,AB 112 1,AW 112,AZ];refine⟨_,(mY xs h r G J N),?_⟩;simp
def Z4(xs:List Int)(hi:∀n∈xs,i64 n)(h:List Row)(r:Nat)(G:List Int)(J:xs.length+G.length<=2^44)(N:h[r]?=some (DO (BI xs++G))):FX 114 [.R r 0] h [.W 3 1 (xs.map (.int .i64))] (h.set r (DO G)):=by refine EH 114 ?_;simp[As 114,awp,AB 114 0,AB 114 1,AW 114,AZ];refine⟨_,(mW xs hi h r G J N),?_⟩;simp
def Z1(h:List Row)(r:Nat)(G:h[r]?=some (DO [])):FX 116 [.R r 0] h [((0:Int):D)] h:=by refine EH 116 ?_;simp[As 116,awp,AB 116 0,AB 116 1,AB 116 3,AW 116,AZ,G,DO,AM]
section
variable {xs:List V} {args ds rets:List D} {b f i n r sz:Nat} {O:Nat->Prop} {J h h':List Row} {μ:List Nat} {w:World} {g:Gh}
section
variable {P:Program} {GL:Ai}
theorem Inv.frzRow{t:Nat->D}{u:Nat->Value}(hi:Inv g w μ t u h O)(hr:h[r]?=some (.cells ds))(hb:μ[r]?=some b)(b1:xs.length=n)(c0:∀x∈xs,x.cells.length=sz)(b6:D.vs? (ds.take (n*sz))=some (xs.flatMap V.cells)):
  ∃U,Inv U w μ t u (h.set r .dead) O/\Chg (λz=>z=b) g w U w/\∀cap,n<=cap->RepV U (.list xs) (.slice (some ⟨b,0,none⟩) n cap):=by
 obtain⟨vs,T,G,a6,b0,a7⟩:=hi.rows r _ b hr hb;have b3:=UM b6 (a6.take (n*sz));obtain⟨ws,w1,w2,w3⟩:=UO c0 b3 (λu hu=>b0 u (s9 hu));have b9:ws.length=n:=by rw[w1.1,b1]
 let U:=g.put b 0 (vs.take (n*sz))
 have a1:g.le U:=Gh.le_put _ λo _ _=>a7 o;have Z:Chg (λz=>z=b) g w U w:=⟨a1,ri _,λ_ _ _=>rfl,λb' _ W o=>Gh.put_other W o,rfl,rfl⟩;have b2:∀b' o v,U.m b' o=some v->w.cell? ⟨b',o,none⟩=some v:=by
  intro b' o v N;by_cases W:b'=b
  .subst W;rw[cell_of_row w b' o _ _ _ G];simp only[U,Gh.put]at N;split at N
   .rename_i hc;simp only[ul]at N;have h2:=hc.2.2;rw[sP]at N;split at N
    .simpa using N
    .cases N
   .rw[a7]at N;cases N
  .simp only[U,Gh.put_other W]at N;exact hi.agree b' o v N
 have a8:=hi.setAny hr hb .dead Z b2 (Bq G) (λk ds d h=>by cases h);have a2:∀i,i <n->((λi=>ws.getD i (.bool false)) i).cells.size=sz:=λi hi=>by have:i <ws.length:=AE;simp only[List.getD,rW this,sA];exact w3 _ (sy this)
 refine⟨U,a8,Z,λcap c1=>?_⟩;rw[<-b1];refine RepV.list xs ⟨b,0,none⟩ cap sz (λi=>ws.getD i (.bool false)) rfl AE (λi x hi=>?_) (λi hi=>⟨a2 i AE,λj v hj=>?_⟩)
 .obtain⟨u,hu,b5⟩:=w1.get hi;simp only[List.getD,hu,sA];exact b5.mono a1
 .have b4:j <sz:=by have:=(rZ.1 hj).1;have:=a2 i AE;simp at *;omega
  have:=Gh.put_at g b 0 (vs.take (n*sz)) (i*sz+j) v (by rw[w2,Sr,b9,FA a2 AE b4];exact hj)
  simpa using this
theorem FSp.frz{cs:List D}(hf:FSp P GL f args h [.agg ds] h')(hi:ds[i]?=some (.sr r n))(hr:h'[r]?=some (.cells cs))(hx:xs.length=n)(b4:∀x∈xs,x.cells.length=sz)(b3:D.vs? (cs.take (n*sz))=some (xs.flatMap V.cells)):FSp P GL f args h [.agg (ds.set i (.v (.list xs)))] (h'.set r .dead):=by
 obtain⟨h1,h2⟩:=hf;refine⟨h1,λg w μ us O hinv hgl hall htame=>(h2 g w μ us O hinv hgl hall htame).mono ?_⟩;rintro e w' ⟨v,g',μ',rfl,W,a8,hμ⟩;have a2:RepD g' w' μ' (.agg ds) v:=W.rep 0;obtain⟨vs,rfl,ha,ho,hn⟩:=a2;obtain⟨u,hu,b1⟩:=ha.get hi;obtain⟨b,cap,hb,rfl,b0⟩:=b1;obtain⟨a7,G,U,b2⟩:=W.frzRow hr hb hx b4 b3;refine⟨_,a7,μ',rfl,?_,a8.trans (U.mono λz(hz:z=b)ho=>W.mo b (rY hb) (hz▸ho)),hμ⟩;have a6:=G.set (d:=0) (x:= .agg (ds.set i (.v (.list xs)))) (v:= .agg vs.toArray) ⟨vs,rfl,⟨by rw[so];exact ha.1,λj x v N hv=>?_⟩,ho,λd hd v=>?_⟩ (λk=>by cases k<;>simp[Ar,Am])
 .refine Eq.mp ?_ a6
  congr 1
  .funext k
   cases k<;>simp[Hc,Bp]
  .funext k
   cases k<;>simp[Hc]
 .rw[sr]at N;by_cases a1:i=j
  .subst a1;rw[if_pos rfl]at N;split at N
   .simp only[rV]at N;subst N;rw[hu]at hv;simp only[rV]at hv;subst hv;exact b2 cap b0
   .cases N
  .rw[if_neg a1]at N;refine(ha.2 j x v N hv).chg U (ro _) λb' Z=>?_;rw[hn x (rY N) v]at Z;cases Z
 .rcases sn hd with h3|rfl
  .exact hn d h3 v
  .rfl
theorem FSp.aggV(hf:FSp P GL f args h [.agg (xs.map .v)] h'):FSp P GL f args h [.v (.agg xs)] h':=by
 obtain⟨h1,h2⟩:=hf;refine⟨h1,λg w μ us O hinv hgl hall htame=>(h2 g w μ us O hinv hgl hall htame).mono ?_⟩;rintro e w' ⟨v,Z,μ',rfl,G,W,hμ⟩;have N:RepD Z w' μ' (.agg (xs.map .v)) v:=G.rep 0;obtain⟨vs,rfl,ha,ho,hn⟩:=N;refine⟨_,Z,μ',rfl,?_,W,hμ⟩;have U:=G.set (d:=0) (x:= .v (.agg xs)) (v:= .agg vs.toArray) (.agg' ⟨by simpa using ha.1,λi x v hx hv=>ha.2 i (.v x) v (by simp[hx]) hv⟩ ho) (λk=>Ck _ _ _);refine Eq.mp ?_ U
 congr 1
 .funext k
  cases k<;>simp[Hc,Bp]
 .funext k
  cases k<;>simp[Hc]
theorem FSp.trim(Z:FSp P GL f args h rets (h'++J))(hl:h.length<=h'.length)(hh:∀row∈h',Row.low h'.length row=true)(hr:∀d∈rets,D.lt h'.length d=true):FSp P GL f args h rets h':=by obtain⟨W,h2⟩:=Z;refine⟨W,λg w μ us O hinv hgl hall htame=>(h2 g w μ us O hinv hgl hall htame).mono ?_⟩;rintro e w' ⟨v,U,μ',rfl,N,G,hμ⟩;refine⟨v,U,μ'.take h'.length,rfl,N.low (VI (QL hr)) hh,G,?_⟩;obtain⟨tl,rfl⟩:=hμ;rw[List.take_append,sN (by rw[hinv.len];exact hl)];exact tS _ _
theorem Lo{ac:AC}{rs:List AR}{W:List V}(hk:DD P GL f n ac rs=true)(hn:args.length=n)(hw:awp P GL ac (λe s=>(match e with| .exit _=>False|_=>True)/\∃(ds cs:List D)(i r m sz:Nat)(xs:List V),Dg s rs=some [.agg ds]/\ds[i]?=some (.sr r m)/\s.h[r]?=some (.cells cs)/\xs.length=m/\(∀x∈xs,x.cells.length=sz)/\
   D.vs? (cs.take (m*sz))=some (xs.flatMap V.cells)/\ds.set i (.v (.list xs))=W.map .v) ⟨AZ args,[]⟩):FSp P GL f args [] [.v (.agg W)] []:=by
 refine Ki (HH (rets:=[.v (.agg W)]) (h':=[]) hk hn (Ap ac (λe s=>by
  rintro⟨h1,ds,cs,i,r,m,sz,xs,a7,hi,hr,hx,b4,b3,a8⟩;refine⟨h1,_,a7,λg w μ v O hinv=>?_⟩;have a6:RepD g w μ (.agg ds) v:=hinv.rep 0;obtain⟨vs,rfl,ha,ho,b5⟩:=a6;obtain⟨u,hu,b1⟩:=ha.get hi;obtain⟨b,cap,hb,rfl,b0⟩:=b1;obtain⟨g',Z,G,b2⟩:=hinv.frzRow hr hb hx b4 b3;have a2:W.length=ds.length:=by have:=congrArg List.length a8;simpa using this.symm
  have U:=Z.set (d:=0) (x:= .v (.agg W)) (v:= .agg vs.toArray) (.agg' ⟨by rw[a2];exact ha.1,λj y v hj hv=>?_⟩ ho) (λk=>Ck _ _ _)
  .have e1:(λn=>if 0=n then D.v (.agg W) else Hc .any (Bp [.agg ds]) n)=Hc .any (Bp [.v (.agg W)]):=by funext k;cases k<;>simp[Hc,Bp]
   have e2:(λn=>if 0=n then Value.agg vs.toArray else Hc (.bool false) (.agg vs.toArray) n)=Hc (.bool false) (.agg vs.toArray):=by funext k;cases k<;>simp[Hc]
   rw[e1,e2]at U;refine⟨g',[],λμ0 hμ0 _=>by rw[sf hμ0];exact ro _,?_,G.mono λz(hz:z=b)ho=>hinv.mo b (rY hb) (hz▸ho)⟩;exact Inv.low (h:=[]) U (λk=>by cases k<;>rfl) Ac
  .have N:(W.map D.v)[j]?=some (.v y):=by rw[rk,hj];rfl
   rw[<-a8,sr]at N;by_cases a1:i=j
   .subst a1;rw[if_pos rfl]at N;split at N
    .simp only[rV,D.v.injEq]at N;subst N;rw[hu]at hv;simp only[rV]at hv;subst hv;exact b2 cap b0
    .cases N
   .rw[if_neg a1]at N;exact RepV.mono G.le (ha.2 j _ v N hv)) hw))
theorem Dh{args rets:List V}(hf:FSp P GL f (args.map .v) [] (rets.map .v) []):PSp P GL f args rets:=by
 refine⟨hf.1,λg w us a1 a2 N=>?_⟩;have W:Inv g w [] Kv NP [] (λb=>b <w.heap.size):=by
  refine⟨a1,λb G=>G,λn=>by simp[Kv,RepD,RepG,RepE],rfl,λr row b U=>by simp at U,λr r' b U=>by simp at U,λb G=>by simp at G,λp q b Z=>?_,λp b Z=>?_⟩
  .exfalso;cases p with
   |tmp n k=>cases k<;>simp[Cm,Kv,Ar,Am]at Z
   |cell r k=>simp[Cm,BJ,Am]at Z
  .exfalso;cases p with
   |tmp n k=>cases k<;>simp[Cm,Kv,Ar,Am]at Z
   |cell r k=>simp[Cm,BJ,Am]at Z
 refine(hf.2 g w [] us _ W a2 ⟨by simpa using N.1,λi x v hx hv=>?_⟩ (λi d v hd hv=>?_)).mono ?_
 .simp only[rk,rt]at hx;obtain⟨y,hy,rfl⟩:=hx;exact N.2 i y v hy hv
 .simp only[rk,rt]at hd;obtain⟨y,_,rfl⟩:=hd;simp[Am]
 .rintro e w' ⟨v,g',μ',rfl,hi,hc,hμ⟩;obtain rfl:μ'=[]:=sf hi.len;have U:=hi.rep 0;simp only[Hc,if_true,KY]at U;exact⟨v,g',rfl,U,⟨hc.le,hc.size,λb G _=>hc.heap b G (λh=>h G),λb G _=>hc.gh b G (λh=>h G),hc.os,hc.out⟩,hi.agree⟩
end
end
section
variable {f i j k n:Nat} {K:St->Prop} {s:St} {bn:List Nat} {e:CC} {h':List Row}
section
variable {P:Program} {GL:Ai}
def YH(Az:List (List Nat))(n:Nat)(rem:List Nat):Prop:=∀j <n,j∉rem->∀i∈(Az[j]?).getD [],i∉rem
def SP{Az:List (List Nat)}{G:List Nat}(h:Wu Az G i=true):i∈G/\∀j∈(Az[i]?).getD [],j∉G:=by simp only[Wu,rX,List.contains_iff_mem,ry,tA,<-Bool.not_eq_true]at h;exact⟨h.1,λj J=>by simpa using h.2 j J⟩
theorem WN{is:List GI}{Az:List (List Nat)}(I:List Nat->St->Prop)(O:∀G i s,i∈G->(∀j∈(Az[i]?).getD [],j∉G)->(∀j <n,j∉G->i∉(Az[j]?).getD [])->I G s->∃s1,Bh P GL (is.getD i default) s s1/\I (G.erase i) s1)(a2:∀s,I [] s->K s):∀(t:AT)(G:List Nat)(s:St),G.Nodup->YH Az n G->t.chk is Az G=true->I G s->t.ok P GL is K s:=by
 have U:∀G i,G.Nodup->YH Az n G->i∈G->(∀j∈(Az[i]?).getD [],j∉G)->YH Az n (G.erase i):=by
  intro G i J hd hi a1 j hj N k hk a8;have a7:k∈G:=uL a8;by_cases a6:j=i
  .subst a6;exact a1 k hk a7
  .exact hd j hj (λhm=>N ((vB a6).2 hm)) k hk a7
 intro t;induction t with
 |done=>
  intro G s _ _ hc hi;simp only[AT.chk,List.isEmpty_iff]at hc;subst hc;exact a2 s hi
 |take i t ih=>
  intro G s J hd hc hi;simp only[AT.chk,rX]at hc;obtain⟨W,h2⟩:=SP hc.1.1.1;obtain⟨s1,g1,g2⟩:=O G i s W h2 (λj hj N Z=>hd j hj N i Z W) hi;exact⟨s1,g1,ih _ _ (J.erase i) (U G i J hd W h2) hc.2 g2⟩
 |pick c ih=>
  intro G s J hd hc hi;simp only[AT.chk,rX]at hc;exact ih G s J hd hc.2 hi
 |alt i t r iht ihr=>
  intro G s J hd hc hi;simp only[AT.chk,rX]at hc;obtain⟨W,h2⟩:=SP hc.1.1.1;obtain⟨s1,g1,g2⟩:=O G i s W h2 (λj hj N Z=>hd j hj N i Z W) hi;exact⟨⟨s1,g1,iht _ _ (J.erase i) (U G i J hd W h2) hc.1.2 g2⟩,ihr G s J hd hc.2 hi⟩
 |none=>intro G s _ _ _ _;trivial
def C8(d:Nat->Bool)(i:Nat):Nat->Bool:=λj=>decide (j=i)||d j
theorem KC{is:List GI}{Az:List (List Nat)}(I:(Nat->Bool)->St->Prop){t:AT}(ht:t.chk is Az (List.range n)=true)(N:∀d i s,i <n->d i=false->(∀j∈(Az[i]?).getD [],d j=true)->(∀j <n,i∈(Az[j]?).getD []->d j=false)->I d s->∃s1,Bh P GL (is.getD i default) s s1/\I (C8 d i) s1)(U:∀d s,(∀j <n,d j=true)->I d s->K s)(h0:I (λj=>decide (n<=j)) s):t.ok P GL is K s:=by
 refine WN (Az:=Az) (n:=n) (λG s=>G.Nodup/\(∀i∈G,i <n)/\I (λj=>decide (j∉G)) s) ?_ ?_ t (List.range n) s vD ?_ ht ⟨vD,λi hi=>sM.1 hi,?_⟩
 .rintro G i s hi O a6 ⟨Z,W,hI⟩;obtain⟨s1,g1,g2⟩:=N (λj=>decide (j∉G)) i s (W i hi) (by simpa using hi) (λj J=>by simpa using O j J) (λj J a1=>by have:j∈G:=Classical.byContradiction λh=>a6 j J h a1;simpa using this) hI
  refine⟨s1,g1,Z.erase i,λj J=>W j (uL J),?_⟩;have e:(λj=>decide (j∉G.erase i))=C8 (λj=>decide (j∉G)) i:=by
   funext j
   simp only[C8,Z.mem_erase_iff];by_cases h1:j=i<;>simp[h1]
  rw[e];exact g2
 .rintro s ⟨_,_,hI⟩;exact U _ s (λj _=>Ac) hI
 .intro j J a2 i hi;exact absurd (sM.2 J) a2
 .have e:(λj=>decide (j∉List.range n))=λj=>decide (n<=j):=by funext j;simp
  rw[e];exact h0
def EnvD(ns cs:List (Option Nat))(bn:List Nat)(vs bv:Nat->D)(d:Nat->Bool)(e:CC):Prop:=
 (∀j k:Nat,ns[j]?=some (some k)->d j=true->(∀c:Nat,cs[j]?=some (some c)->d c=false)->AK e k=vs j)/\∀k∈bn,AK e k=bv k
def XD(ns:List (Option Nat))(bn:List Nat):Bool:=
 (List.range ns.length).all λj=>match ns[j]? with
  |some (some k)=> !bn.contains k&&(List.range ns.length).all λi=>i==j|| !(ns[i]?==some (some k))
  |_=>true
def Lk{G:List (Option Nat)}(h:XD G bn=true)(U:G[j]?=some (some k)):k∉bn/\∀i,G[i]?=some (some k)->i=j:=by
 have N:j <G.length:=(rZ.1 U).1;have:=ry.1 h j (sM.2 N);rw[U]at this;simp only[rX,tA,ry,ta,beq_iff_eq]at this;refine⟨λW=>?_,λi hi=>?_⟩
 .have O:=this.1;simp at O;exact O W
 .have J:i <G.length:=(rZ.1 hi).1;rcases this.2 i (sM.2 J)with h2|h2
  .exact h2
  .rw[hi]at h2;simp at h2
def EnvD.step{O cs:List (Option Nat)}{vs bv:Nat->D}{d:Nat->Bool}{Z:CC}(hE:EnvD O cs bn vs bv d e)(G:XD O bn=true)(i:Nat)(U:∀k:Nat,O[i]?=some (some k)->AK Z k=vs i)(hold:∀k:Nat,O[i]?≠some (some k)->(∀j:Nat,cs[j]?=some (some i)->O[j]?≠some (some k))->AK Z k=AK e k):EnvD O cs bn vs bv (C8 d i) Z:=by
 refine⟨λj k W hd hc=>?_,λk hk=>?_⟩
 .by_cases J:j=i
  .subst J;exact U k W
  .have a2:d j=true:=by simpa[C8,J]using hd
   rw[hold k (λhi=>J ((Lk G hi).2 j W)) (λj' a6 N=>?_)]
   .refine hE.1 j k W a2 λc a1=>?_;have:=hc c a1;simp only[C8,Bool.or_eq_false_iff]at this;exact this.2
   .have a7:j=j':=(Lk G N).2 j W;subst a7;have:=hc i a6;simp[C8]at this
 .rw[hold k (λhi=>(Lk G hi).1 hk) (λj' _ N=>(Lk G N).1 hk)];exact hE.2 k hk
def EnvD.push{J cs:List (Option Nat)}{vs bv:Nat->D}{d:Nat->Bool}(O:EnvD J cs bn vs bv d e)(N:XD J bn=true)(i k:Nat){v:D}(hi:J[i]?=some (some k))(U:vs i=v):
  EnvD J cs bn vs bv (C8 d i) ((k,v)::e):=by
 refine O.step N i (λk' G=>?_) (λk' G _=>?_)
 .rw[hi]at G;simp only[rV]at G;subst G;show (if k=k then v else AK e k)=vs i;rw[if_pos rfl,U]
 .show (if k=k' then v else AK e k')=AK e k';rw[if_neg (λh=>G (by rw[hi,h]))]
def EnvD.last{J cs:List (Option Nat)}{vs bv:Nat->D}{d:Nat->Bool}(O:EnvD J cs bn vs bv d e)(N:XD J bn=true)(i j m:Nat)(hi:J[i]?=some none)(U:cs[j]?=some (some i))(W:J[j]?=some (some m)):
  EnvD J cs bn vs bv (C8 d i) ((m,.any)::e):=by
 refine O.step N i (λk' G=>?_) (λk' G hc=>?_)
 .rw[hi]at G;simp at G
 .show (if m=k' then .any else AK e k')=AK e k';rw[if_neg (λh=>hc j U (by rw[W,h]))]
def Bg{O:List GI}{N:PI}{v:D}{G:CC}{J:List Row}(hx:O.getD i default=⟨none,.p k N⟩)(U:N.val G J=some v):Bh P GL (O.getD i default) ⟨G,J⟩ ⟨(k,v)::G,J⟩:=by rw[hx];refine .inl ?_;show (N.val G J).map (λx=>(⟨(k,x)::G,J⟩:St))=_;rw[U];rfl
def Cw{G:List GI}{ai:AI}{s1:St}(hx:G.getD i default=⟨none,ai⟩)(J:ai.step s=some s1):Bh P GL (G.getD i default) s s1:=by rw[hx];exact .inl J
def Cx{J:List GI}{args:List Opd}{r:D}{G:CC}{N:List Row}(hx:J.getD i default=⟨none,.callF (some k) (.c (.v (.func f []))) args⟩)(O:FSp P GL f (A9 G args) N [r] h'):
  Bh P GL (J.getD i default) ⟨G,N⟩ ⟨(k,r)::G,h'⟩:=by
 rw[hx];exact .inr (.inr (.inl ⟨some k,_,args,[r],h',.inl rfl,⟨f,[],rfl,by simpa using O⟩,rfl⟩))
end
end
section
open Go.Proofs Go.Shelf Go.Maps Go.Sort
def QR:Ren:=⟨λ|6=>237|8=>298|9=>299|11=>326|13=>328|12=>327|23=>348|24=>349|14=>340|15=>341|16=>342|17=>343|18=>344|19=>345|20=>284|21=>346|22=>347|25=>354|26=>355|27=>356|28=>357|29=>358|30=>321|31=>359|n=>n,λ|26=>3|28=>352|24=>22|0=>0|3=>3|37=>257|48=>428|50=>47|4=>4|40=>421|39=>420|45=>425|5=>5|9=>9|51=>431|55=>409|57=>435|58=>175|33=>248|n=>n,λn=>n⟩
def nj:SlLaysZI.n6 Tryz.prog QR where
 mixed:=by kernel_rfl
 f6:=⟨Tryz.f237.name,by kernel_rfl,Tryz.func237.trans (congrArg some (by kernel_rfl))⟩
 f8:=⟨Tryz.f298.name,by kernel_rfl,Tryz.func298.trans (congrArg some (by kernel_rfl))⟩
 f11:=⟨Tryz.f326.name,by kernel_rfl,Tryz.func326.trans (congrArg some (by kernel_rfl))⟩
 t0:=Tryz.underlying0
 a0:=Tryz.isAgg0
 z0:=Tryz.sizeOf0
 v0:=Tryz.zeroValue0
 t24:=Tryz.underlying22
 a24:=Tryz.isAgg22
 z24:=Tryz.sizeOf22
 v24:=Tryz.zeroValue22
 t26:=Tryz.underlying3
 a26:=Tryz.isAgg3
 z26:=Tryz.sizeOf3
 v26:=Tryz.zeroValue3
 t28:=Tryz.underlying352
 a28:=Tryz.isAgg352
 z28:=Tryz.sizeOf352
 v28:=Tryz.zeroValue352
 i26:=by kernel_rfl
def VK:Ren:=⟨λ|5=>299|8=>328|7=>327|19=>348|20=>349|10=>340|11=>341|12=>342|13=>343|14=>344|15=>345|16=>284|17=>346|18=>347|30=>354|31=>355|32=>356|33=>357|34=>358|35=>321|40=>359|n=>n,λ|23=>22|25=>3|3=>3|32=>257|22=>22|0=>0|44=>428|46=>47|4=>4|36=>421|35=>420|41=>425|5=>5|9=>9|53=>431|57=>409|63=>435|64=>175|n=>n,λn=>n⟩
def fD:SlLaysM.n5 Tryz.prog VK where
 mixed:=by kernel_rfl
 f5:=⟨Tryz.f299.name,by kernel_rfl,Tryz.func299.trans (congrArg some (by kernel_rfl))⟩
 f7:=⟨Tryz.f327.name,by kernel_rfl,Tryz.func327.trans (congrArg some (by kernel_rfl))⟩
 f8:=Tryz.func328.trans (congrArg some (by kernel_rfl))
 f10:=⟨Tryz.f340.name,by kernel_rfl,Tryz.func340.trans (congrArg some (by kernel_rfl))⟩
 f11:=⟨Tryz.f341.name,by kernel_rfl,Tryz.func341.trans (congrArg some (by kernel_rfl))⟩
 f12:=⟨Tryz.f342.name,by kernel_rfl,Tryz.func342.trans (congrArg some (by kernel_rfl))⟩
 f13:=⟨Tryz.f343.name,by kernel_rfl,Tryz.func343.trans (congrArg some (by kernel_rfl))⟩
 f14:=⟨Tryz.f344.name,by kernel_rfl,Tryz.func344.trans (congrArg some (by kernel_rfl))⟩
 f15:=⟨Tryz.f345.name,by kernel_rfl,Tryz.func345.trans (congrArg some (by kernel_rfl))⟩
 f16:=⟨Tryz.f284.name,by kernel_rfl,Tryz.func284.trans (congrArg some (by kernel_rfl))⟩
 f17:=⟨Tryz.f346.name,by kernel_rfl,Tryz.func346.trans (congrArg some (by kernel_rfl))⟩
 f18:=⟨Tryz.f347.name,by kernel_rfl,Tryz.func347.trans (congrArg some (by kernel_rfl))⟩
 f19:=Tryz.func348.trans (congrArg some (by kernel_rfl))
 f20:=Tryz.func349.trans (congrArg some (by kernel_rfl))
 f30:=⟨Tryz.f354.name,by kernel_rfl,Tryz.func354.trans (congrArg some (by kernel_rfl))⟩
 f31:=Tryz.func355.trans (congrArg some (by kernel_rfl))
 f32:=Tryz.func356.trans (congrArg some (by kernel_rfl))
 f33:=⟨Tryz.f357.name,by kernel_rfl,Tryz.func357.trans (congrArg some (by kernel_rfl))⟩
 f34:=⟨Tryz.f358.name,by kernel_rfl,Tryz.func358.trans (congrArg some (by kernel_rfl))⟩
 f35:=⟨Tryz.f321.name,by kernel_rfl,Tryz.func321.trans (congrArg some (by kernel_rfl))⟩
 f40:=⟨Tryz.f359.name,by kernel_rfl,Tryz.func359.trans (congrArg some (by kernel_rfl))⟩
 t0:=Tryz.underlying0
 a0:=Tryz.isAgg0
 z0:=Tryz.sizeOf0
 v0:=Tryz.zeroValue0
 t3:=Tryz.underlying3
 a3:=Tryz.isAgg3
 z3:=Tryz.sizeOf3
 v3:=Tryz.zeroValue3
 t4:=Tryz.underlying4
 a4:=Tryz.isAgg4
 z4:=Tryz.sizeOf4
 v4:=Tryz.zeroValue4
 t5:=Tryz.underlying5
 a5:=Tryz.isAgg5
 z5:=Tryz.sizeOf5
 v5:=Tryz.zeroValue5
 t9:=Tryz.underlying9
 a9:=Tryz.isAgg9
 z9:=Tryz.sizeOf9
 v9:=Tryz.zeroValue9
 t22:=Tryz.underlying22
 a22:=Tryz.isAgg22
 z22:=Tryz.sizeOf22
 v22:=Tryz.zeroValue22
 t23:=Tryz.underlying22
 a23:=Tryz.isAgg22
 z23:=Tryz.sizeOf22
 v23:=Tryz.zeroValue22
 t25:=Tryz.underlying3
 a25:=Tryz.isAgg3
 z25:=Tryz.sizeOf3
 v25:=Tryz.zeroValue3
 t32:=Tryz.underlying257
 a32:=Tryz.isAgg257
 z32:=Tryz.sizeOf257
 v32:=Tryz.zeroValue257
 t35:=Tryz.underlying420
 a35:=Tryz.isAgg420
 z35:=Tryz.sizeOf420
 v35:=Tryz.zeroValue420
 t36:=Tryz.underlying421
 a36:=Tryz.isAgg421
 z36:=Tryz.sizeOf421
 v36:=Tryz.zeroValue421
 t41:=Tryz.underlying425
 a41:=Tryz.isAgg425
 z41:=Tryz.sizeOf425
 v41:=Tryz.zeroValue425
 t44:=Tryz.underlying428
 a44:=Tryz.isAgg428
 z44:=Tryz.sizeOf428
 v44:=Tryz.zeroValue428
 t46:=Tryz.underlying47
 a46:=Tryz.isAgg47
 z46:=Tryz.sizeOf47
 v46:=Tryz.zeroValue47
 t53:=Tryz.underlying431
 a53:=Tryz.isAgg431
 z53:=Tryz.sizeOf431
 v53:=Tryz.zeroValue431
 t57:=Tryz.underlying409
 a57:=Tryz.isAgg409
 z57:=Tryz.sizeOf409
 v57:=Tryz.zeroValue409
 t63:=Tryz.underlying435
 a63:=Tryz.isAgg435
 z63:=Tryz.sizeOf435
 v63:=Tryz.zeroValue435
 t64:=Tryz.underlying175
 a64:=Tryz.isAgg175
 z64:=Tryz.sizeOf175
 v64:=Tryz.zeroValue175
def ZZ(m:Nat):AnyZI.SortsIn Tryz.prog QR Fence.wide m:=
 ⟨λCm N cap U W O G J=>callsIn_wide.2 (AnyM.slices_Sort_int fD Cm N cap U W O G J),
  λp cap W=>callsIn_wide.2 (AnyM.slices_Sort_int_none fD p cap W)⟩
def EK(l:List Int):List Int:=l.mergeSort (λx y=>decide (x<=y))
variable {m r:Nat} {h:List Row}
theorem lz{es:List (V×V)}{st:List Nat}{ck:Nat}{ks:List Int}(hr:h[r]?=some (.cells [.mr m]))(hm:h[m]?=some (.map es st ck))(he:es.map (·.1)=ks.map (.int .i64))(h1:ks.length<=2^30)(hw:∀k∈ks,i64 k):
  FX 237 [.func 300 [.R r 0]] h [.W 3 1 ((EK ks).map (.int .i64))] h:=by
 refine⟨by kernel_rfl,λg w μ us O hinv hgl hall htame=>?_⟩;obtain⟨c2,Bz⟩:=hall;obtain⟨u,rfl⟩:∃u,us=[u]:=by
  match us,c2 with
  |[u],_=>exact⟨u,rfl⟩
 have hu:RepE g w μ (.func 300 [.R r 0]) u:=Bz 0 _ u rfl rfl;obtain⟨vs,rfl,c8⟩:=hu;obtain⟨c,rfl⟩:∃c,vs=[c]:=by
  match vs,c8.1 with
  |[c],_=>exact⟨c,rfl⟩
 have hc:RepC g μ (.R r 0) c:=c8.2 0 _ c rfl rfl;obtain⟨br,d5,rfl⟩:=hc;obtain⟨rs,T,hb,ha,f0,f2⟩:=hinv.rows r _ br hr d5;obtain⟨x,rfl⟩:∃x,rs=[x]:=by
  match rs,ha.1 with
  |[x],_=>exact⟨x,rfl⟩
 have hx:RepE g w μ (.mr m) x:=ha.2 0 _ x rfl rfl;obtain⟨bm,d3,rfl⟩:=hx;obtain⟨G,e3,e4,d4,b0,e7⟩:=hinv.rows m _ bm hm d3;have b1:G.toList.length=ks.length:=by have e1:=congrArg List.length he;simp only[sD]at e1;rw[b0.1,e1]
 have c0:∀(i:Nat)(y:MapEntry),G.toList[i]?=some y->∃k,ks[i]?=some k/\y.key= .int .i64 k:=by
  intro i y hy;have hi:i <G.toList.length:=(rZ.1 hy).1;obtain⟨kv,c1⟩:∃kv,es[i]?=some kv:=⟨_,rW (by rw[<-b0.1];exact hi)⟩;have h2:=(b0.2 i kv y c1 hy).1;have h3:(es.map (·.1))[i]?=some kv.1:=by simp[c1]
  rw[he]at h3;simp only[rk,rt]at h3;obtain⟨k,hk,b2⟩:=h3;refine⟨k,hk,?_⟩;rw[<-b2]at h2;generalize y.key=yk at h2 ⊢;cases h2;rfl
 have d8:∀k∈ks,keyOf Tryz.prog 3 (.int .i64 k)=some (.int .i64 k):=by
  intro k hk;have h2:=hw k hk;simp only[i64]at h2;have h3:(Lit.int .i64 k).wf=true:=by simp only[Lit.wf,rX,decide_eq_true_eq,IntKind.min,IntKind.max,IntKind.signed,IntKind.bits];simp;omega
  simp[keyOf,mapKey,Tryz.underlying3,h3]
 have c5:∀(i:Nat)(y:MapEntry),G.toList[i]?=some y->∃k,ks[i]?=some k/\Go.WideElems.rd Tryz.prog 3 RK y=some (.int .i64 k,.nil):=by intro i y hy;obtain⟨k,hk,e5⟩:=c0 i y hy;refine⟨k,hk,?_⟩;simp[Go.WideElems.rd,e5,d8 k (rY hk),RK]
 have c4:w.ownsMap Tryz.prog 3 RK bm ks.length (.map ((G.toList.map (Go.WideElems.rg Tryz.prog 3 RK)).foldr DataW.insert [])):=by
  refine⟨G,ck,e3,⟨?_,e4,?_⟩,?_,rfl⟩
  .have:G.size<=2^30:=by rw[<-uq,b1];exact h1
   exact sS this Ah
  .intro y hy;obtain⟨i,hi⟩:=tK.1 hy;obtain⟨k,_,hk⟩:=c5 i y hi;exact⟨_,hk⟩
  .rw[<-uq,b1];exact ri _
 have c7:Maps.size (.map ((G.toList.map (Go.WideElems.rg Tryz.prog 3 RK)).foldr DataW.insert []):DataW Unit)=ks.length:=by show ((G.toList.map (Go.WideElems.rg Tryz.prog 3 RK)).foldr DataW.insert []).length=ks.length;rw[(Go.WideShapes.sorted_perm _).length_eq,sD,b1]
 have d7:(intKeys (.map ((G.toList.map (Go.WideElems.rg Tryz.prog 3 RK)).foldr DataW.insert []):DataW Unit)).Perm ks:=by
  have e1:((G.toList.map (Go.WideElems.rg Tryz.prog 3 RK)).map λp=>intOf p.1)=ks:=by
   apply sl;intro i;simp only[rk];cases hy:G.toList[i]? with
   |none=>
    have:=List.getElem?_eq_none_iff.1 hy;rw[sU AE];rfl
   |some y=>
    obtain⟨k,hk,b2⟩:=c5 i y hy;simp[Go.WideElems.rg,b2,hk,intOf]
  have e2:=(Go.WideShapes.sorted_perm (G.toList.map (Go.WideElems.rg Tryz.prog 3 RK))).map (λp=>intOf p.1);rw[e1]at e2;exact e2
 have d9:br <w.heap.size:=Bq hb;have c6:=AnyZI.keys_gives Yk Fence.wide 2 trivial rfl AE br bm ks.length _ w d9 (by simp[World.cell?,hb]) c4;have cS:=AnyZI.sorted_in nj Fence.wide 5 trivial trivial trivial trivial rfl AE (ZZ _) (enters_of Tryz.func299 (by kernel_rfl) rfl) 300 #[.pointer (some ⟨br,0,none⟩)] trivial (enters_of Tryz.func300 (by kernel_rfl) rfl) _ _ (by rw[c7];exact sS h1 Ah) (by rw[c7];omega) w c6;refine(callsIn_wide.1 cS).mono ?_;rintro e w' ⟨v,ss,rfl,hS,a2,c3,J⟩;have b4:ss.Perm ks:=hS.trans d7;have a6:ss.mergeSort (λx y=>decide (x<=y))=EK ks:=mergeSort_of_perm_i b4;rw[a6]at a2;have b5:(EK ks).length=ss.length:=by rw[<-a6];exact List.length_mergeSort _
 obtain⟨S,c9⟩:∃S,S=EK ks:=⟨_,rfl⟩;rw[<-c9]at a2 b5 ⊢;have N:∀b o v,g.m b o=some v->b <w.heap.size/\w'.cell? ⟨b,o,none⟩=some v:=by
  intro b o v U;have h2:=hinv.agree b o v U;have h3:b <w.heap.size:=by
   rcases sL b w.heap.size with h'|h'
   .exact h'
   .simp[World.cell?,uF h']at h2
  exact⟨h3,by rw[World.cell?_of_block (a:=⟨b,o,none⟩) (J.block b h3)];exact h2⟩
 rcases a2 with ⟨f1,⟨rfl,hz⟩|⟨gb,cap,a8,rfl,a1,b9,r1,r2,r3,r4⟩⟩
 .obtain rfl:S=[]:=sf (by rw[b5,hz]);have hc:Chg (λ_=>False) g w g w':=⟨Gh.le.refl g,J.size,λb hb _=>J.block b hb,λb hb _ o=>rfl,J.os,J.output⟩;exact⟨_,g,μ,rfl,hinv.newOwn (d:=0) hc (λb o v U=>(N b o v U).2) (.inl ⟨none,rfl,rfl,Ac⟩) (λ_ _=>⟨none,rfl⟩) (by simp[Am]),hc.mono λ_ h=>h.elim,ro _⟩
 .have e9:0 <ss.length:=by
   rcases ur ss.length with h0|h0
   .have:=c3.2 (sf h0);cases this
   .exact h0
  have b3:∀b,w.heap.size<=b->∀o,g.m b o=none:=by
   intro b Z o;cases h4:g.m b o with
   |none=>rfl
   |some v=>have:=(N b o v h4).1;omega
  let g':Gh:=⟨λb o=>if b=gb then (S[o]?).map (Value.int .i64) else g.m b o⟩
  have hc:Chg (λ_=>False) g w g' w':=by
   refine⟨λb o v U=>?_,J.size,λb hb _=>J.block b hb,λb hb _ o=>?_,J.os,J.output⟩
   .by_cases W:b=gb
    .subst W;rw[b3 b a1]at U;cases U
    .simpa[g',W]using U
   .have W:b≠gb:=AE;simp[g',W]
  have b6:∀(o:Nat)(x:Int),S[o]?=some x->a8[o]?=some (.int .i64 x):=by
   intro o x hx;have ho:o <S.length:=(rZ.1 hx).1;have h2:(a8.toList.take (ss.length*1))[o]?=some (.int .i64 x):=by rw[r4,rk,hx];rfl
   rw[List.getElem?_take_of_lt AE]at h2;rw[<-su];exact h2
  have d2:∀b o v,g'.m b o=some v->w'.cell? ⟨b,o,none⟩=some v:=by
   intro b o v U;by_cases W:b=gb
   .subst W;simp only[g',if_true,rt]at U;obtain⟨x,hx,rfl⟩:=U;simp[World.cell?,b9,b6 o x hx]
   .simp only[g',W,if_false]at U;exact(N b o v U).2
  have a7:(S.map (V.int .i64)).length=ss.length:=by rw[sD,b5]
  refine⟨_,g',μ,rfl,hinv.newOwn (d:=0) (e:=3) (s:=1) (xs:=S.map (.int .i64)) hc d2 (.inr ⟨gb,cap,a8,λi=> .int .i64 (S.getD i 0),by rw[a7],AE,b9,by rw[a7];exact r1,by simpa using r3,?_,?_,?_⟩) (λh=>by rw[h]at a7;simp at a7;simp_all) ?_,hc.mono λ_ h=>h.elim,ro _⟩
  .intro i x hx;simp only[rk,rt]at hx;obtain⟨n,hn,rfl⟩:=hx;have:S.getD i 0=n:=by simp[List.getD,hn]
   show RepV g' (V.int .i64 n) (Value.int .i64 (S.getD i 0));rw[this];exact .int _ _
  .intro i hi;have d6:i <S.length:=by simpa using hi
   refine⟨rfl,λj v U=>?_⟩
   match j with
   |0=>
    simp[Value.cells]at U;subst U;simp[g',d6]
   |j+1=>simp[Value.cells]at U
  .intro o ho;have:S.length<=o:=by simpa using ho
   simp[g',sU this]
  .intro b Z;simp only[Am]at Z;split at Z
   .cases Z
   .simp only[rV]at Z;rw[<-Z];exact a1
end
structure HM where
 E:List ((Int×Int)×Int)
 st:List Nat
 ck:Nat
def Bz:List ((Int×Int)×Int)->Int×Int->Option Int
 |[],_=>none
 |x::E,k=>if x.1=k then some x.2 else Bz E k
def QU:List ((Int×Int)×Int)->Int×Int->Int->List ((Int×Int)×Int)
 |[],k,v=>[(k,v)]
 |x::E,k,v=>if x.1=k then (k,v)::E else x::QU E k v
def HM.get(m:HM)(k:Int×Int):Option Int:=Bz m.E k
def HM.set(m:HM)(k:Int×Int)(v:Int):HM:=
 if (m.get k).isSome then ⟨QU m.E k v,m.st,m.ck⟩ else ⟨QU m.E k v,m.st++[m.ck],m.ck+1⟩
def JG(x:(Int×Int)×Int):V×V:=(.agg [.int .i64 x.1.1,.int .i64 x.1.2],.int .u64 x.2)
def HM.row(m:HM):Row:= .map (m.E.map JG) m.st m.ck
def QW:∀(E:List ((Int×Int)×Int))(k:Int×Int)(v:Int)(k':Int×Int),Bz (QU E k v) k'=if k'=k then some v else Bz E k'
 |[],k,v,k'=>by simp only[QU,Bz];by_cases h:k=k'<;>simp[h,eq_comm]
 |x::E,k,v,k'=>by
  simp only[QU];by_cases h:x.1=k
  .subst h;simp only[if_true,Bz];by_cases h2:x.1=k'<;>simp[h2,eq_comm]
   intro G;exact absurd G.symm h2
  .rw[if_neg h];simp only[Bz,QW E k v k'];by_cases h2:x.1=k'
   .subst h2;simp[h]
   .simp[h2]
def HM.get_set(m:HM)(k:Int×Int)(v:Int)(k':Int×Int):(m.set k v).get k'=if k'=k then some v else m.get k':=by unfold HM.set;split<;>exact QW _ _ _ _
def Je(a b:Int):∀E:List ((Int×Int)×Int),Cr true [0,0] (.agg [.int .i64 a,.int .i64 b]) (E.map JG)=some (E.findIdx? λx=>x.1==(a,b))
 |[]=>rfl
 |x::E=>by
  obtain⟨⟨c,d⟩,v⟩:=x;have J:Be true [0,0] (.agg [.int .i64 c,.int .i64 d])=true:=by simp[Be,V.eqL,V.eq1,V.cells]
  simp only[rq,JG,Cr,J,if_true,V.cells,V.eqL,V.eq1,uP,Je a b E,tO];have e:((c,d)==(a,b))=((a==c)&&(b==d)):=by
   rw[tC];simp
   constructor<;>(rintro⟨G,h2⟩;exact⟨G.symm,h2.symm⟩)
  rw[e];cases (a==c)&&(b==d)<;>simp
def Gf(k:Int×Int):∀E:List ((Int×Int)×Int),Bz E k=(E.findIdx? λx=>x.1==k).bind λi=>(E[i]?).map (·.2)
 |[]=>rfl
 |x::E=>by
  simp only[Bz,tO];by_cases h:x.1=k
  .simp[h]
  .simp[h,Gf k E];cases E.findIdx? λx=>x.1==k<;>simp
def Mb(k:Int×Int)(v:Int):∀E:List ((Int×Int)×Int),QU E k v=match E.findIdx? λx=>x.1==k with|none=>E++[(k,v)]|some i=>E.set i (k,v)
 |[]=>rfl
 |x::E=>by
  simp only[QU,tO];by_cases h:x.1=k
  .simp[h]
  .simp only[h,if_false,Mb k v E];have:(x.1==k)=false:=by simp[h]
   rw[this];cases E.findIdx? λx=>x.1==k<;>simp
def Eg(a b:Option Int):Option Int:=
 match a,b with
 |none,none=>none
 |a,b=>some (JO [98,108,111,99,107] [IntKind.i64.wrap (a.getD 0),IntKind.i64.wrap (b.getD 0)])
def bH(lf:Int->Option Int):Nat->Int->Option Int
 |0,n=>lf n
 |l+1,n=>Eg (bH lf l (2*n)) (bH lf l (2*n+1))
def IV(lf:Int->Option Int)(m:HM):Prop:=∀l:Nat,l<=12->∀n:Int,m.get ((l:Int),n)=bH lf l n
def upd(lf:Int->Option Int)(k v:Int):Int->Option Int:=λx=>if x=k then some v else lf x
def J8(lf:Int->Option Int)(k v:Int):∀(l:Nat)(n:Int),n≠k/2^l->bH (upd lf k v) l n=bH lf l n
 |0,n,h=>by simp[bH,upd]at h ⊢;intro h2;exact absurd h2 h
 |l+1,n,h=>by
  have e:k/2^(l+1)=k/2^l/2:=by rw[sb,Int.ediv_ediv_of_nonneg (Int.pow_nonneg Ah)]
  rw[e]at h;simp only[bH];rw[J8 lf k v l (2*n) AE,J8 lf k v l (2*n+1) AE]
theorem MZ{a b:Option Int}(h:a.isSome=true\/b.isSome=true):Eg a b=some ((Eg a b).getD 0):=by cases a<;>cases b<;>simp_all [Eg]
def I3:Nat->Int->Int->Int->HM->HM
 |0,j,n,h,m=>m.set (j,n) h
 |f+1,j,n,h,m=>I3 f (j+1) (n/2) ((Eg ((m.set (j,n) h).get (j,2*(n/2))) ((m.set (j,n) h).get (j,2*(n/2)+1))).getD 0) (m.set (j,n) h)
def Uu(lf:Int->Option Int)(k v:Int):∀(f j:Nat)(n h:Int)(m:HM),f+j=12->n=k/2^j->bH (upd lf k v) j n=some h->
  (∀l:Nat,l <j->∀x:Int,m.get ((l:Int),x)=bH (upd lf k v) l x)->(∀l:Nat,j<=l->l<=12->∀x:Int,m.get ((l:Int),x)=bH lf l x)->IV (upd lf k v) (I3 f j n h m):=by
 intro f;induction f with
 |zero=>
  intro j n h m hj Z W O J l hl x;have hj:j=12:=AE;subst hj;simp only[I3,HM.get_set];by_cases hx:l=12/\x=n
  .obtain⟨rfl,rfl⟩:=hx;simp[W]
  .rw[if_neg (by simp;intro h1 h2;exact hx ⟨AE,h2⟩)];by_cases G:l=12
   .subst G;rw[J 12 (ri _) (ri _),J8 lf k v 12 x (λh=>hx ⟨rfl,h.trans Z.symm⟩)]
   .exact O l AE x
 |succ f ih=>
  intro j n h m hj Z W O J;have U:∀(l:Nat),l <j+1->∀x:Int,(m.set ((j:Int),n) h).get ((l:Int),x)=bH (upd lf k v) l x:=by
   intro l hl x;rw[HM.get_set];by_cases hx:l=j/\x=n
   .obtain⟨rfl,rfl⟩:=hx;simp[W]
   .rw[if_neg (by simp;intro h1 h2;exact hx ⟨AE,h2⟩)];by_cases G:l=j
    .subst G;rw[J l (ri _) AE,J8 lf k v l x (λh=>hx ⟨rfl,h.trans Z.symm⟩)]
    .exact O l AE x
  have e:n/2=k/2^(j+1):=by rw[sb,<-Int.ediv_ediv_of_nonneg (Int.pow_nonneg Ah),Z]
  have N:((j:Int)+1)=((j+1:Nat):Int):=rfl;simp only[I3];rw[U j AE,U j AE,N];refine ih (j+1) (n/2) _ _ AE e ?_ (by exact U) ?_
  .simp only[bH];refine MZ ?_;have h0:n%2=0\/n%2=1:=AE;rcases h0 with h0|h0
   .exact .inl (by rw[show 2*(n/2)=n by omega,W];rfl)
   .exact .inr (by rw[show 2*(n/2)+1=n by omega,W];rfl)
  .intro l hl G x;rw[HM.get_set,if_neg (by simp;intro h1;omega)];exact J l AE G x
def Wv{lf:Int->Option Int}{m:HM}(J:IV lf m)(k v:Int):IV (upd lf k v) (I3 12 0 k v m):=
 Uu lf k v 12 0 k v m rfl Ac (by simp[bH,upd]) (λl G=>absurd G (Nat.not_lt_zero l)) (λl _ G x=>J l G x)
def Sy(lf:Int->Option Int):∀(l:Nat)(n:Int),(bH lf l n).isSome=true↔∃k,n*2^l<=k/\k <(n+1)*2^l/\(lf k).isSome=true
 |0,n=>by
  simp only[bH,Int.pow_zero,Int.mul_one]
  constructor
  .exact λh=>⟨n,AE,AE,h⟩
  .rintro⟨k,J,h2,G⟩;have:k=n:=AE;subst this;exact G
 |l+1,n=>by
  have hj:∀a b:Option Int,(Eg a b).isSome=true↔a.isSome=true\/b.isSome=true:=by intro a b;cases a<;>cases b<;>simp[Eg]
  simp only[bH,hj,Sy lf l];have U:n*2^(l+1)=2*n*2^l:=by rw[sb,sX (2^l) 2,<-si,sX n 2]
  have e2:(n+1)*2^(l+1)=(2*n+1+1)*2^l:=by rw[sb,sX (2^l) 2,<-si];congr 1;omega
  rw[U,e2];have O:(0:Int) <2^l:=sR Ah;have N:(2*n+1)*2^l=2*n*2^l+2^l:=by rw[uS,uh]
  have W:(2*n+1+1)*2^l=2*n*2^l+2^l+2^l:=by rw[uS,N,uh]
  rw[N,W];generalize (2:Int)*n*2^l=A at*;generalize (2:Int)^l=p at*
  constructor
  .rintro(⟨k,J,h2,G⟩|⟨k,J,h2,G⟩)<;>exact⟨k,AE,AE,G⟩
  .rintro⟨k,J,h2,G⟩;by_cases Z:k <A+p
   .exact .inl ⟨k,J,Z,G⟩
   .exact .inr ⟨k,AE,h2,G⟩
open Go.Proofs
end Go.Va
