/- Part 5 of the proof that ExtractBetter returns true for every input and leaves its arguments alone. Condition: the variable that the row lists holds what the text of the program lays. Texts joined here: VwJ VwK VwL VwM VwN VwO VsB VwQ. -/
import Derived.Test.YtopldfpkgbkomaaGreatDoorL03
set_option linter.all false
set_option maxRecDepth 100000
namespace Go.Va
open Go.Proofs
section
variable {P:Program} {GL:AV}
theorem BK {c:AC} {Q:AExit→St→Prop} (n:Nat) (S:Nat→St) (I:Nat→Prop) {s:St} (hs:s=S 0) (h0:I 0)
  (h:∀k,k≤n→I k→awp P GL c (λe s'=>match e with| .normal=>k <n∧I (k+1)∧s'=S (k+1)|e=>Q e s') (S k)):awp P GL (.loop c) Q s:=by
 subst hs;refine⟨λm s=>∃k,k≤n∧m=n-k∧I k∧s=S k,⟨n,0,AUR _,rfl,h0,rfl⟩,?_⟩;rintro m s ⟨k,hk,rfl,hi,rfl⟩;refine AX c ?_ (h k hk hi);intro e s' h;cases e with
 |normal=>obtain⟨hlt,hi',rfl⟩:=h;exact⟨n-(k+1),by omega,k+1,hlt,rfl,hi',rfl⟩
 |exit i=>exact h
 |ret=>exact h
end
def okR (n d:Int):Bool:=decide (1≤d∧d≤1048576∧n≤1099511627776∧ -1099511627776≤n∧Int.gcd n d=1)
def A5 (n d:Int):V:= .agg [.int .i64 n,.int .i64 d]
theorem ARF (m:Nat):∀(a b:Nat),b≤m→a <2^64→b <2^64→
  awp Tryz.prog GLx (.loop MX) (λe s=>e= .exit 0∧AH s.e 0= .v (.int .u64 (Nat.gcd a b))) ⟨[(0,.v (.int .u64 a)),(1,.v (.int .u64 b))],[]⟩:=by
 induction m with
 |zero=>
  intro a b hb h1 h2;have:b=0:=by omega
  subst this;refine Af ?_;simp only[MX,AB,AA,AF,AE,P0];simp[AM]
 |succ m ih=>
  intro a b hb h1 h2;by_cases h0:b=0
  ·exact ih a b (by omega) h1 h2
  ·have hlt:=Nat.mod_lt a (show 0 <b by omega);have hih:=ih b (a%b) (by omega) h2 (by omega);have e:Nat.gcd b (a%b)=Nat.gcd a b:=by rw[Nat.gcd_comm,←Nat.gcd_rec,Nat.gcd_comm]
   rw[e]at hih;refine Aw ?_ hih;simp only[MX,AB,AA,AF,AE,P0];have w1:IntKind.u64.wrap ((a:Int)%b)=((a%b:Nat):Int):=by rw[Bg (by omega) (by omega)];rfl
   have h3:0 <b:=by omega
   simp[h3,AD,Aa,aA,AWa,w1,h0]
theorem APE (a b:Nat) (h1:a <2^64) (h2:b <2^64):PX 350 [.int .u64 a,.int .u64 b] [.int .u64 (Nat.gcd a b)]:=by
 refine AK ARa rfl ?_;simp only[AMM,AB,AF,AA,aB,AY];simp;refine AX _ ?_ (ARF b a b (ATs _) h1 h2);rintro e s ⟨rfl,h⟩;simp[Z9,h,AG,AAH]
theorem AID (n:Int) (hn:i64 n):PX 330 [.int .i64 n] [.int .u64 n.natAbs]:=by
 refine AK ARg rfl ?_;unfold i64 at hn;by_cases h0:n <0
 ·simp[AEo,awp,P8,P7,ah,aj,AY,h0];simp only[Ez];omega
 ·simp[AEo,awp,P8,P7,af,aj,AY,h0];simp only[Ez];omega
def GA (neg:Bool) (n d:Nat):List V:=
 if n/Nat.gcd n d>1099511627776∨d/Nat.gcd n d>1048576 then [A5 0 0,.int .i64 5]
 else [A5 (if neg then -((n/Nat.gcd n d:Nat):Int) else ((n/Nat.gcd n d:Nat):Int)) ((d/Nat.gcd n d:Nat):Int),.int .i64 0]
theorem API (neg:Bool) (n d:Nat) (h1:n <2^64) (h2:d <2^64) (hd:0 <d):PX 329 [.bool neg,.int .u64 n,.int .u64 d] (GA neg n d):=by
 refine AK ARh rfl ?_;have hg:0 <Nat.gcd n d:=Nat.gcd_pos_of_pos_right _ hd;have hn1:=Nat.div_le_self n (Nat.gcd n d);have hd1:=Nat.div_le_self d (Nat.gcd n d);have hp:=APE n d h1 h2;unfold GA;generalize Nat.gcd n d=g at*;have qa:(n:Int)/g=((n/g:Nat):Int):=rfl;have qb:(d:Int)/g=((d/g:Nat):Int):=rfl;generalize n/g=a at*;generalize d/g=b at*;have w1:IntKind.u64.wrap (a:Int)=a:=Bg (by omega) (by omega);have w2:IntKind.u64.wrap (b:Int)=b:=Bg (by omega) (by omega);have hg0:g≠0:=by omega
 simp only[AMe,AB,AA,Aa,AF,AE,ax,aw,av,au,AY];simp;refine⟨_,_,hp.fsp _,?_⟩;simp[AWb,qa,qb,w1,w2,hg0];have w3:IntKind.i64.wrap (a:Int)=a∨1099511627776 <a:=by
  by_cases h:a≤1099511627776
  ·exact .inl (AJ)
  ·exact .inr (by omega)
 by_cases h3:1099511627776 <(a:Int)
 ·have h3':1099511627776 <a:=by omega
  simp[h3,h3',AB,AA,AG,P9,TL,AO,A5]
 ·have h3':¬1099511627776 <a:=by omega
  by_cases h4:1048576 <(b:Int)
  ·have h4':1048576 <b:=by omega
   simp[h3,h3',h4,h4',AB,AA,AG,P9,TL,AO,A5]
  ·have h4':¬1048576 <b:=by omega
   have w5:IntKind.i64.wrap (a:Int)=a:=AJ;have w6:IntKind.i64.wrap (b:Int)=b:=AJ;have w7:IntKind.i64.wrap (-(a:Int))= -a:=AJ;cases neg<;>simp[h3,h3',h4,h4',AB,AA,AE,AD,AG,ar,aq,ap,am,TL,AO,A5,w5,w6,w7]
theorem Vn (n d:Int) (hd:1≤d) (h1:i64 n) (h2:i64 d):(GA (decide (n <0) != decide (d <0)) n.natAbs d.natAbs=[A5 n d,.int .i64 0])↔okR n d=true:=by
 unfold GA okR;unfold i64 at h1 h2;have e:Int.gcd n d=Nat.gcd n.natAbs d.natAbs:=rfl;have hg:0 <Nat.gcd n.natAbs d.natAbs:=Nat.gcd_pos_of_pos_right _ (by omega);have hdn:decide (d <0)=false:=by simp;omega
 simp only[hdn];rw[e]
 constructor
 ·intro h;split at h
  ·simp[A5]at h
  ·rename_i hc;simp[A5]at h;have hb:d.natAbs/Nat.gcd n.natAbs d.natAbs=d.natAbs:=by omega
   have hg1:Nat.gcd n.natAbs d.natAbs=1:=by
    rcases AUD 1 (Nat.gcd n.natAbs d.natAbs)with h3|h3
    ·have:=Nat.div_lt_self (show 0 <d.natAbs by omega) h3;omega
    ·omega
   rw[hg1]at hc;simp[hg1]at hc ⊢;omega
 ·intro h;simp at h;obtain⟨h3,h4,h5,h6,h7⟩:=h;rw[h7];rw[if_neg (by simp;omega)];simp[A5]
  constructor
  ·split<;>omega
  ·omega
theorem Km (neg:Bool) (n d:Nat):GA neg n d=[A5 0 0,.int .i64 5]∨∃a b,GA neg n d=[A5 a b,.int .i64 0]:=by
 unfold GA;split
 ·exact .inl rfl
 ·exact .inr ⟨_,_,rfl⟩
theorem APR (n d:Int) (hd:d≠0) (h1:i64 n) (h2:i64 d):PX 306 [.int .i64 n,.int .i64 d] (GA (decide (n <0) != decide (d <0)) n.natAbs d.natAbs):=by
 refine AK ARs rfl ?_;simp only[AMo,AB,AA,AF,AE,cM,cL,AY];simp[hd,AD,AA,cK];refine⟨_,_,(AID n h1).fsp _,?_⟩;simp;refine⟨_,_,(AID d h2).fsp _,?_⟩;simp;have hx:(decide (n <0) != decide (d <0))= !(decide (n <0)==decide (d <0)):=rfl
 try rw[←hx]
 unfold i64 at h1 h2;refine⟨_,_,(API _ n.natAbs d.natAbs (by omega) (by omega) (by omega)).fsp _,?_⟩;generalize (decide (n <0) != decide (d <0))=ng;obtain h|⟨a,b,h⟩:=Km ng n.natAbs d.natAbs<;>rw[h]<;>simp[A5,AG,AAQ,AO]
theorem tX (n d:Int) (h1:i64 n) (h2:i64 d):PX 248 [A5 n d] [.int .i64 (if okR n d then 0 else 1)]:=by
 refine AK ASQ rfl ?_;simp only[ANO,AB,AA,AF,AE,im,ik,AY];simp[A5];by_cases hd:d <1
 ·have:okR n d=false:=by unfold okR;simp;omega
  simp[hd,this,AB,AA,AG,ij,Ti]
 ·have hp:=(APR n d (by omega) h1 h2);have hb:=Vn n d (by omega) h1 h2;simp[hd,AD,AA,ii];refine⟨_,_,hp.fsp _,?_⟩;obtain h|⟨a,b,h⟩:=Km (decide (n <0) != decide (d <0)) n.natAbs d.natAbs
  ·have h3:okR n d=false:=by
    cases h4:okR n d with
    |false=>rfl
    |true=>rw[hb.2 h4]at h;simp at h
   rw[h,h3];simp[A5,AB,AA,AE,AG,Qt,Qs,Ti,AO]
  ·have h3:okR n d=decide (a=n∧b=d):=by
    rw[h]at hb;simp[A5]at hb;rw[AUt,←hb];simp
   rw[h,h3];by_cases h4:a=n<;>by_cases h5:b=d<;>simp[h4,h5,A5,AB,AA,AE,AD,AG,Qt,Qs,ig,Ti,AO,V.eqL,V.eq1]
theorem Nx {n d:Int} (h:okR n d=true):1≤d∧d≤1048576∧n≤1099511627776∧ -1099511627776≤n:=by
 unfold okR at h;simp at h;omega
theorem Sd {a b:Int} (h1:a≤1099511627776) (h2: -1099511627776≤a) (h3:1≤b) (h4:b≤1048576):a*b≤1152921504606846976∧ -1152921504606846976≤a*b:=by
 have:=AUp h1 (show 0≤b by omega);have:=AUp h2 (show 0≤b by omega);omega
theorem tu (L:List V) (k:Nat) (hk:k <2^40) (n d:Int) (h1:i64 n) (h2:i64 d) (hx:L[k]?=some (A5 n d)) (m:Int) (hm:(k:Int) <m) (h:List Row) (Q:AExit→St→Prop)
  (hok:okR n d=true→Q .normal ⟨[(6,.v (.list L)),(7,.v (.int .i64 m)),(8,.v (.int .i64 (k+1:Nat)))],h++[.cells [.v (.int .i64 n),.v (.int .i64 d)]]⟩)
  (hno:okR n d=false→∀s,AH s.e 2= .v (.int .i64 1)→Q .ret s):
  awp Tryz.prog GLx Me Q ⟨[(6,.v (.list L)),(7,.v (.int .i64 m)),(8,.v (.int .i64 k))],h⟩:=by
 have hw:IntKind.i64.wrap ((k:Int)+1)=k+1:=AJ;simp only[Me,AB,AA,AF,AE,QY];simp[hm,AD,AA,dV,hx,A5,AO,dU];refine⟨_,_,(tX n d h1 h2).fsp _,?_⟩;cases ho:okR n d with
 |true=>
  have:=hok ho;simp[QX,AE,AD,AA,dS,hw];simpa using this
 |false=>
  simp[QX,AE,AB,AA,AG,dT];exact hno ho _ rfl
theorem APX (a b c d:Int) (h1:i64 a) (h2:i64 b) (h3:i64 c) (h4:i64 d):PX 291 [.list [A5 a b,A5 c d]] [.int .i64 (if okR a b&&okR c d then 0 else 1)]:=by
 refine AK AR0 rfl ?_;simp only[AMw,AB,AA,AF,AE,dX,dW,AY];simp;cases ho:okR a b with
 |false=>
  refine Af ?_;refine tu [A5 a b,A5 c d] 0 (by omega) a b h1 h2 rfl 2 (by omega) [] _ (λh=>by rw[h]at ho;cases ho) ?_;intro _ s hs;simp[TY,hs]
 |true=>
  refine Aw (s1:=⟨[(6,.v (.list [A5 a b,A5 c d])),(7,.v (.int .i64 2)),(8,.v (.int .i64 1))],[.cells [.v (.int .i64 a),.v (.int .i64 b)]]⟩) ?_ ?_
  ·exact tu [A5 a b,A5 c d] 0 (by omega) a b h1 h2 rfl 2 (by omega) [] _ (λ_=>rfl) (λh=>by rw[h]at ho;cases ho)
  cases ho2:okR c d with
  |false=>
   refine Af ?_;refine tu [A5 a b,A5 c d] 1 (by omega) c d h3 h4 rfl 2 (by omega) [.cells [.v (.int .i64 a),.v (.int .i64 b)]] _ (λh=>by rw[h]at ho2;cases ho2) ?_;intro _ s hs;simp[TY,hs]
  |true=>
   refine Aw (s1:=⟨[(6,.v (.list [A5 a b,A5 c d])),(7,.v (.int .i64 2)),(8,.v (.int .i64 2))],[.cells [.v (.int .i64 a),.v (.int .i64 b)],.cells [.v (.int .i64 c),.v (.int .i64 d)]]⟩) ?_ ?_
   ·exact tu [A5 a b,A5 c d] 1 (by omega) c d h3 h4 rfl 2 (by omega) [.cells [.v (.int .i64 a),.v (.int .i64 b)]] _ (λ_=>rfl) (λh=>by rw[h]at ho2;cases ho2)
   refine Af ?_;simp only[Me,AB,AA,AF,AE,QY];simp[AM,AB,AA,AG,dR,TY]
def Sh (a b c d:Int):Bool:=decide (a*d <c*b)
def PU (a b c d:Int):Int:=if a*d <c*b then -1 else if c*b <a*d then 1 else 0
theorem APW (a b c d:Int) (h1:okR a b=true) (h2:okR c d=true):PX 292 [A5 a b,A5 c d] [.int .i64 (PU a b c d)]:=by
 refine AK ARz rfl ?_;have q1:=Nx h1;have q2:=Nx h2;have m1:=Sd (a:=a) (b:=d) (by omega) (by omega) (by omega) (by omega);have m2:=Sd (a:=c) (b:=b) (by omega) (by omega) (by omega) (by omega);unfold PU;have w1:IntKind.i64.wrap (a*d)=a*d:=AJ;have w2:IntKind.i64.wrap (c*b)=c*b:=AJ;simp only[AMv,AB,AA,Aa,AF,AE,dQ,dP,dN,AY];simp[A5,w1,w2];by_cases l1:a*d <c*b
 ·simp[l1,AB,AA,AG,dM,TW]
 ·by_cases l2:c*b <a*d
  ·simp[l1,l2,AB,AA,AE,AG,QW,dL,TW]
  ·simp[l1,l2,AB,AA,AE,AD,AG,QW,dK,TW]
theorem AIU (a b c d:Int) (h1:i64 a) (h2:i64 b) (h3:i64 c) (h4:i64 d):PX 227 [A5 a b,A5 c d] (if okR a b&&okR c d then [.int .i64 (PU a b c d),.int .i64 0] else [.int .i64 0,.int .i64 1]):=by
 refine AK ASa rfl ?_;have hp:=(APX a b c d h1 h2 h3 h4).fsp;simp only[ANd,AB,AA,AF,AE,kZ,kY,kX,AY];simp[A5]at hp ⊢;refine⟨_,_,hp _,?_⟩;cases ho1:okR a b<;>cases ho2:okR c d<;>simp[AB,AA,AD,AG,kW,kV,AA8]
 have hq:=(APW a b c d ho1 ho2).fsp;simp[A5]at hq;refine⟨_,⟨_,hq _⟩,?_⟩;simp
theorem AIB (a b c d:Int) (h1:okR a b=true) (h2:okR c d=true):PX 352 [A5 a b,A5 c d] [.bool (Sh a b c d)]:=by
 refine AK ARY rfl ?_;have q1:=Nx h1;have q2:=Nx h2;have m1:=Sd (a:=a) (b:=d) (by omega) (by omega) (by omega) (by omega);have m2:=Sd (a:=c) (b:=b) (by omega) (by omega) (by omega) (by omega);have w1:IntKind.i64.wrap (a*d)=a*d:=AJ;have w2:IntKind.i64.wrap (c*b)=c*b:=AJ;simp[AMK,awp,Z5,Z4,AAG,AY,A5,w1,w2,Sh]
theorem ARK (m:Nat):∀(a b:Int),b.natAbs≤m→a.natAbs≤1099511627776→b.natAbs≤1099511627776→
  awp Tryz.prog GLx (.loop Mm) (λe s=>e= .exit 0∧∃g:Int,g.natAbs=Int.gcd a b∧AH s.e 0= .v (.int .i64 g)) ⟨[(0,.v (.int .i64 a)),(1,.v (.int .i64 b))],[]⟩:=by
 induction m with
 |zero=>
  intro a b hb h1 h2;have:b=0:=by omega
  subst this;refine Af ?_;simp only[Mm,AB,AA,AF,AE,Q4];simp[AM]
 |succ m ih=>
  intro a b hb h1 h2;by_cases h0:b=0
  ·exact ih a b (by omega) h1 h2
  ·have e:(a.tmod b).natAbs=a.natAbs%b.natAbs:=Int.natAbs_tmod a b;have hlt:=Nat.mod_lt a.natAbs (show 0 <b.natAbs by omega);have hih:=ih b (a.tmod b) (by omega) h2 (by omega);have e2:Int.gcd b (a.tmod b)=Int.gcd a b:=by
    unfold Int.gcd;rw[e,Nat.gcd_comm,←Nat.gcd_rec,Nat.gcd_comm]
   rw[e2]at hih;refine Aw ?_ hih;simp only[Mm,AB,AA,AF,AE,Q4];have w1:IntKind.i64.wrap (a.tmod b)=a.tmod b:=AJ;simp[AD,Aa,lg,w1,h0]
theorem AQK (a b:Int) (h1:a.natAbs≤1099511627776) (h2:b.natAbs≤1099511627776):PX 215 [.int .i64 a,.int .i64 b] [.int .i64 (Int.gcd a b)]:=by
 refine AK ASg rfl ?_;simp only[ANj,AB,AF,AA,lh,AY];simp;refine AX _ ?_ (ARK b.natAbs a b (ATs _) h1 h2);rintro e s ⟨rfl,g,hg,h⟩;have hgb:Int.gcd a b≤2199023255552:=by
  unfold Int.gcd;rcases AVp a.natAbs with h3|h3
  ·rw[h3,Nat.gcd_zero_left];omega
  ·have:=Nat.gcd_le_left b.natAbs h3;omega
 by_cases h0:g <0
 ·have w:IntKind.i64.wrap (-g)= -g:=AJ;simp[Q3,h,h0,AB,AA,AE,AG,lZ,lj,w];omega
 ·simp[Q3,h,h0,AB,AA,AE,AD,AG,lY,lj];omega
set_option maxHeartbeats 2000000 in
theorem AIb (n d:Int) (h1:i64 n) (h2:i64 d):PX 127 [A5 n d] [.int .i64 (if okR n d then 0 else 1)]:=by
 refine AK ATH rfl ?_;simp only[AOs,AB,AA,AF,AE,rR,rQ,AY];unfold okR;by_cases b1:d <1
 ·simp[A5,b1,AB,AA,AG,Im,Ke];omega
 by_cases b2:1048576 <d
 ·simp[A5,b1,b2,AB,AA,AG,Im,Ke];omega
 by_cases b3:1099511627776 <n
 ·simp[A5,b1,b2,b3,AB,AA,AG,Im,Ke];omega
 by_cases b4:n < -1099511627776
 ·simp[A5,b1,b2,b3,b4,AB,AA,AG,Im,Ke];omega
 simp[A5,b1,b2,b3,b4];refine⟨_,_,(AQK n d (by omega) (by omega)).fsp _,?_⟩;by_cases b5:Int.gcd n d=1
 ·simp[b5,AD,AA,AG,rP,Ke];omega
 ·simp[b5,AB,AA,AG,Im,Ke];omega
structure Ivl where
 (ln ld hn hd:Int)
 (lo ho li hi:Bool)
def Ivl.V (x:Ivl):V:= .agg [.int .i64 x.ln,.int .i64 x.ld,.int .i64 x.hn,.int .i64 x.hd,.bool x.lo,.bool x.ho,.bool x.li,.bool x.hi]
def Ivl.ok (x:Ivl):Prop:=i64 x.ln∧i64 x.ld∧i64 x.hn∧i64 x.hd
structure End where
 (far n d:Int)
 (after:Bool)
def End.V (x:End):V:= .agg [.int .i64 x.far,.int .i64 x.n,.int .i64 x.d,.bool x.after]
def loE (x:Ivl):End:=if x.li then ⟨-1,0,0,false⟩ else ⟨0,x.ln,x.ld,x.lo⟩
def hiE (x:Ivl):End:=if x.hi then ⟨1,0,0,false⟩ else ⟨0,x.hn,x.hd,!x.ho⟩
theorem A6 {K:St→Prop} {n0:Nat} {s:St} (π:List (Nat×Nat)) (hp:Jx n0 s.h.length π=true) (ho:LL s.h=true) (hK:K ⟨s.e.map λp=>(p.1,p.2.ren π),Aq π s.h⟩):∃s2,Ov n0 s s2∧K s2:=
 ⟨_,.inr ⟨π,hp,ho,λn=>Dm π s.e n,rfl⟩,hK⟩
set_option maxHeartbeats 2000000 in
theorem ACi (x:Ivl):PX 303 [x.V] [(loE x).V,(hiE x).V]:=by
 obtain⟨ln,ld,hn,hd,lo,ho,li,hi⟩:=x;refine AK ARv rfl ?_;unfold AMr;rw[AB,AA];simp[cd,AY,Ivl.V];rw[AB,Bq];obtain⟨R0,hR0⟩:∃R0:List D,R0=[.v (.int .i64 ln),.v (.int .i64 ld),.v (.int .i64 hn),.v (.int .i64 hd),.v (.bool lo),.v (.bool ho),.v (.bool li),.v (.bool hi)]:=⟨_,rfl⟩;obtain⟨Z,hZ⟩:∃Z:List D,Z=[.v (.int .i64 0),.v (.int .i64 0),.v (.int .i64 0),.v (.bool false)]:=⟨_,rfl⟩;obtain⟨A,hA⟩:∃A:List D,A=[.v (.int .i64 0),.v (.int .i64 ln),.v (.int .i64 ld),.v (.bool lo)]:=⟨_,rfl⟩;obtain⟨B,hB⟩:∃B:List D,B=[.v (.int .i64 0),.v (.int .i64 hn),.v (.int .i64 hd),.v (.bool !ho)]:=⟨_,rfl⟩;refine Bm _ (K:=λs=>AH s.e 1= .ref 0 0∧AH s.e 2= .ref 1 0∧AH s.e 3= .ref 2 0∧
  ((AH s.e 4= .ref 3 0∧AH s.e 5= .ref 4 0∧s.h=[.cells R0,.cells Z,.cells Z,.cells A,.cells B])∨
   (AH s.e 4= .ref 4 0∧AH s.e 5= .ref 3 0∧s.h=[.cells R0,.cells Z,.cells Z,.cells B,.cells A]))) ?_ ?_
 ·rintro s ⟨f1,f2,f3,h⟩;have key:∀s:St,AH s.e 1= .ref 0 0→AH s.e 2= .ref 1 0→AH s.e 3= .ref 2 0→AH s.e 4= .ref 3 0→AH s.e 5= .ref 4 0→s.h=[.cells R0,.cells Z,.cells Z,.cells A,.cells B]→
    awp Tryz.prog GLx (.seq (.seq (.reg QV [1,2,3,4,5,18]) (.cond (.t 18 false) (.reg QU [1,2,3,4,5]) .skip)) (.seq (.seq (.reg QT [2,3,4,5,21]) (.cond (.t 21 false) (.reg QS [2,3,4,5]) .skip)) (.seq (.regA QR [2,3] [[],[],[0],[0,1,2]] (.take 0 (.pick (.alt 1 (.take 2 (.take 3 .done)) (.alt 2 (.take 1 (.take 3 .done)) .none))))) .ret))) (λe s=>(match e with| .exit _=>False|_=>True)∧B8 s ce=some [(loE ⟨ln,ld,hn,hd,lo,ho,li,hi⟩).V,(hiE ⟨ln,ld,hn,hd,lo,ho,li,hi⟩).V]) ⟨BL s.e [1,2,3,4,5],s.h⟩:=by
   rintro s f1 f2 f3 f4 f5 fh;simp only[AB,AA,AE,QV];simp[f1,f2,f3,f4,f5,fh,hR0];cases li<;>cases hi<;>simp[AD,AA,AG,Bq,QU,QT,QS,QR,AO,loE,hiE,End.V,hA,hB,hZ]<;>refine⟨_,.inl rfl,?_⟩<;>simp[ce]
  rcases h with ⟨f4,f5,fh⟩|⟨f4,f5,fh⟩
  ·exact⟨s,.inl rfl,key s f1 f2 f3 f4 f5 fh⟩
  ·refine A6 [(3,4),(4,3)] (by rw[fh];rfl) (by rw[fh];rfl) (key _ ?_ ?_ ?_ ?_ ?_ ?_)
   ·rw[Dm,f1];rfl
   ·rw[Dm,f2];rfl
   ·rw[Dm,f3];rfl
   ·rw[Dm,f4];rfl
   ·rw[Dm,f5];rfl
   ·rw[fh,hR0,hZ,hA,hB];rfl
 ·simp[cc,AO,hR0,hZ,hA,hB]
def End.b (x:End):Prop:=x.far≤1∧ -1≤x.far∧x.n≤1099511627776∧ -1099511627776≤x.n∧0≤x.d∧x.d≤1048576
def Hd (a b:End):Bool:=
 if a.far≠b.far then decide (a.far <b.far) else if a.far≠0 then false else if a.n*b.d≠b.n*a.d then decide (a.n*b.d <b.n*a.d) else !a.after&&b.after
theorem WR {a b:Int} (h1:a≤1099511627776) (h2: -1099511627776≤a) (h3:0≤b) (h4:b≤1048576):a*b≤1152921504606846976∧ -1152921504606846976≤a*b:=by
 have:=AUp h1 h3;have:=AUp h2 h3;omega
theorem AIG (a b:End) (ha:a.b) (hb:b.b):PX 304 [a.V,b.V] [.bool (Hd a b)]:=by
 obtain⟨fa,na,da,aa⟩:=a;obtain⟨fb,nb,db,ab⟩:=b;unfold End.b at ha hb;simp only at ha hb;have m1:=WR (a:=na) (b:=db) (by omega) (by omega) (by omega) (by omega);have m2:=WR (a:=nb) (b:=da) (by omega) (by omega) (by omega) (by omega);have w1:IntKind.i64.wrap (na*db)=na*db:=AJ;have w2:IntKind.i64.wrap (nb*da)=nb*da:=AJ;refine AK ARu rfl ?_;unfold Hd;simp only[AMq,AB,AA,AE,cb,AY];simp only[End.V];simp[ca];by_cases h1:fa=fb
 ·subst h1;simp[AD,AA,cY];by_cases h2:fa=0
  ·subst h2;simp[AD,AA,Aa,cW,w1,w2,cV];by_cases h3:na*db=nb*da
   ·rw[h3];simp[AD,AA,cT];cases aa<;>simp[AG,Ob]
   ·simp[h3,AB,AA,AG,cU,Ob]
  ·simp[h2,AB,AA,AG,cX,Ob]
 ·simp[h1,AB,AA,AG,cZ,Ob]
def BO (n d:Int):Bool:=okR n d&&decide (n≤1073741824∧ -1073741824≤n∧d≤32768)
theorem APP (n d:Int) (h1:i64 n) (h2:i64 d):PX 309 [A5 n d] [.bool (BO n d)]:=by
 refine AK ARp rfl ?_;have hp:=(tX n d h1 h2).fsp;unfold BO;simp only[AMl,AB,AA,AE,bz,AY];simp[A5]at hp ⊢;simp[bx];refine⟨_,_,hp _,?_⟩;cases okR n d with
 |false=>simp[AG,b7]
 |true=>
  by_cases b1: -1073741824≤n<;>by_cases b2:n≤1073741824<;>simp[b1,b2,AG,b7]
theorem AIF (n d:Int) (h1:i64 n) (h2:i64 d) (op inf:Bool):PX 308 [A5 n d,.bool op,.bool inf] [.bool (if inf then decide (n=0∧d=0)&& !op else BO n d)]:=by
 refine AK ARq rfl ?_;have hp:=(APP n d h1 h2).fsp;simp only[AMm,AB,AA,AE,cA,AY];simp[A5]at hp ⊢;cases inf with
 |false=>
  simp[QP,AD,AA,b8];refine⟨_,_,hp _,?_⟩;simp[AG,cB]
 |true=>
  simp[QP,AB,AA,b9];by_cases b1:n=0<;>by_cases b2:d=0<;>simp[b1,b2,V.eqL,V.eq1,AG,cB]
theorem APS (l:List V):PX 305 [.list l] [.int .i64 (if l.length>32 then 4 else 0)]:=by
 refine AK ARt rfl ?_;simp only[AMp,AB,AA,AE,cQ,AY];simp[cP];by_cases h:32 <(l.length:Int)
 ·have h':32 <l.length:=by omega
  simp[h,h',AB,AA,AG,cO,cR]
 ·have h':¬32 <l.length:=by omega
  simp[h,h',AD,AA,AG,cN,cR]
def Ky (n d:Int) (op inf:Bool):Bool:=if inf then decide (n=0∧d=0)&& !op else BO n d
def EZ (x:Ivl):Bool:=Ky x.ln x.ld x.lo x.li&&Ky x.hn x.hd x.ho x.hi&&Hd (loE x) (hiE x)
theorem Ni {n d:Int} (h:BO n d=true):1≤d∧d≤32768∧n≤1073741824∧ -1073741824≤n:=by
 unfold BO at h;simp at h;have:=Nx h.1;omega
theorem wC {x:Ivl} (h:Ky x.ln x.ld x.lo x.li=true):(loE x).b:=by
 unfold Ky at h;unfold loE End.b;split at h
 ·rename_i hi;simp[hi]
 ·rename_i hi;have:=Ni h;simp[hi];omega
theorem wG {x:Ivl} (h:Ky x.hn x.hd x.ho x.hi=true):(hiE x).b:=by
 unfold Ky at h;unfold hiE End.b;split at h
 ·rename_i hi;simp[hi]
 ·rename_i hi;have:=Ni h;simp[hi];omega
theorem AIO (x:Ivl) (hx:x.ok):PX 258 [x.V] [.bool (EZ x)]:=by
 refine AK ASH rfl ?_;have p1:=(AIF x.ln x.ld hx.1 hx.2.1 x.lo x.li).fsp;have p2:=(AIF x.hn x.hd hx.2.2.1 hx.2.2.2 x.ho x.hi).fsp;have p3:=(ACi x).fsp;have p4:=λh1 h2=>(AIG (loE x) (hiE x) (wC h1) (wG h2)).fsp;unfold EZ;have e1:∀n d op inf,(if inf then decide (n=0∧d=0)&& !op else BO n d)=Ky n d op inf:=λ_ _ _ _=>rfl;rw[e1]at p1 p2;generalize hl1:Ky x.ln x.ld x.lo x.li=l1 at*;generalize hl2:Ky x.hn x.hd x.ho x.hi=l2 at*;simp only[AND,AB,AA,AE,gP,gO,AY];simp[A5,Ivl.V]at p1 p2 p3 ⊢;simp[gN];refine⟨_,_,p1 _,?_⟩;simp;cases l1 with
 |false=>simp[AB,AA,AG,Qk,Tf]
 |true=>
  simp;refine⟨_,_,p2 _,?_⟩;simp;cases l2 with
  |false=>simp[AB,AA,AG,Qk,Tf]
  |true=>
   simp[AD,AA,gM];refine⟨_,_,p3 _,?_⟩;have q:=p4 rfl rfl;simp[End.V]at q ⊢;refine⟨_,_,q _,?_⟩;simp[AG,Tf]
theorem Av (h l:List Row) (n k:Nat) (hn:n=h.length+k):(h++l)[n]?=l[k]?:=by
 subst hn;rw[AUK (by omega)];congr 1;omega
theorem Bn (h l:List Row) (n k:Nat) (x:Row) (hn:n=h.length+k):(h++l).set n x=h++l.set k x:=by
 subst hn;rw[AVb _ _ (by omega)];congr 2;omega
@[simp high] theorem wX (h l:List Row):(h++l)[h.length]?=l[0]?:=Av h l _ 0 (by omega)
@[simp high] theorem vx (h l:List Row) (x:Row):(h++l).set (h.length) x=h++l.set 0 x:=Bn h l _ 0 x (by omega)
@[simp high] theorem wW (h l:List Row):(h++l)[h.length+1]?=l[1]?:=Av h l _ 1 (by omega)
@[simp high] theorem vw (h l:List Row) (x:Row):(h++l).set (h.length+1) x=h++l.set 1 x:=Bn h l _ 1 x (by omega)
@[simp high] theorem wV (h l:List Row):(h++l)[h.length+1+1]?=l[2]?:=Av h l _ 2 (by omega)
@[simp high] theorem vu (h l:List Row) (x:Row):(h++l).set (h.length+1+1) x=h++l.set 2 x:=Bn h l _ 2 x (by omega)
@[simp high] theorem wU (h l:List Row):(h++l)[h.length+2]?=l[2]?:=Av h l _ 2 (by omega)
@[simp high] theorem vt (h l:List Row) (x:Row):(h++l).set (h.length+2) x=h++l.set 2 x:=Bn h l _ 2 x (by omega)
@[simp high] theorem wT (h l:List Row):(h++l)[h.length+1+1+1]?=l[3]?:=Av h l _ 3 (by omega)
@[simp high] theorem vr (h l:List Row) (x:Row):(h++l).set (h.length+1+1+1) x=h++l.set 3 x:=Bn h l _ 3 x (by omega)
@[simp high] theorem wS (h l:List Row):(h++l)[h.length+3]?=l[3]?:=Av h l _ 3 (by omega)
@[simp high] theorem vq (h l:List Row) (x:Row):(h++l).set (h.length+3) x=h++l.set 3 x:=Bn h l _ 3 x (by omega)
@[simp high] theorem wR (h l:List Row):(h++l)[h.length+1+1+1+1]?=l[4]?:=Av h l _ 4 (by omega)
@[simp high] theorem vp (h l:List Row) (x:Row):(h++l).set (h.length+1+1+1+1) x=h++l.set 4 x:=Bn h l _ 4 x (by omega)
@[simp high] theorem wQ (h l:List Row):(h++l)[h.length+4]?=l[4]?:=Av h l _ 4 (by omega)
@[simp high] theorem vo (h l:List Row) (x:Row):(h++l).set (h.length+4) x=h++l.set 4 x:=Bn h l _ 4 x (by omega)
@[simp high] theorem wP (h l:List Row):(h++l)[h.length+1+1+1+1+1]?=l[5]?:=Av h l _ 5 (by omega)
@[simp high] theorem vn (h l:List Row) (x:Row):(h++l).set (h.length+1+1+1+1+1) x=h++l.set 5 x:=Bn h l _ 5 x (by omega)
@[simp high] theorem wO (h l:List Row):(h++l)[h.length+5]?=l[5]?:=Av h l _ 5 (by omega)
@[simp high] theorem vm (h l:List Row) (x:Row):(h++l).set (h.length+5) x=h++l.set 5 x:=Bn h l _ 5 x (by omega)
@[simp high] theorem wN (h l:List Row):(h++l)[h.length+1+1+1+1+1+1]?=l[6]?:=Av h l _ 6 (by omega)
@[simp high] theorem vl (h l:List Row) (x:Row):(h++l).set (h.length+1+1+1+1+1+1) x=h++l.set 6 x:=Bn h l _ 6 x (by omega)
@[simp high] theorem wM (h l:List Row):(h++l)[h.length+6]?=l[6]?:=Av h l _ 6 (by omega)
@[simp high] theorem vk (h l:List Row) (x:Row):(h++l).set (h.length+6) x=h++l.set 6 x:=Bn h l _ 6 x (by omega)
@[simp high] theorem wL (h l:List Row):(h++l)[h.length+1+1+1+1+1+1+1]?=l[7]?:=Av h l _ 7 (by omega)
@[simp high] theorem vj (h l:List Row) (x:Row):(h++l).set (h.length+1+1+1+1+1+1+1) x=h++l.set 7 x:=Bn h l _ 7 x (by omega)
@[simp high] theorem wK (h l:List Row):(h++l)[h.length+7]?=l[7]?:=Av h l _ 7 (by omega)
@[simp high] theorem vi (h l:List Row) (x:Row):(h++l).set (h.length+7) x=h++l.set 7 x:=Bn h l _ 7 x (by omega)
@[simp high] theorem wJ (h l:List Row):(h++l)[h.length+1+1+1+1+1+1+1+1]?=l[8]?:=Av h l _ 8 (by omega)
@[simp high] theorem vh (h l:List Row) (x:Row):(h++l).set (h.length+1+1+1+1+1+1+1+1) x=h++l.set 8 x:=Bn h l _ 8 x (by omega)
@[simp high] theorem wI (h l:List Row):(h++l)[h.length+8]?=l[8]?:=Av h l _ 8 (by omega)
@[simp high] theorem vg (h l:List Row) (x:Row):(h++l).set (h.length+8) x=h++l.set 8 x:=Bn h l _ 8 x (by omega)
section
variable {P:Program} {GL:AV}
theorem Ae {c:AC} {Q:AExit→St→Prop} (n:Nat) (I:Nat→St→Prop) {s:St} (h0:I 0 s)
  (h:∀k s,k≤n→I k s→awp P GL c (λe s'=>match e with| .normal=>k <n∧I (k+1) s'|e=>Q e s') s):awp P GL (.loop c) Q s:=by
 refine⟨λm s=>∃k,k≤n∧m=n-k∧I k s,⟨n,0,AUR _,rfl,h0⟩,?_⟩;rintro m s ⟨k,hk,rfl,hi⟩;refine AX c ?_ (h k s hk hi);intro e s' h;cases e with
 |normal=>obtain⟨hlt,hi'⟩:=h;exact⟨n-(k+1),by omega,k+1,hlt,rfl,hi'⟩
 |exit i=>exact h
 |ret=>exact h
end
def Cx (l:List Ivl) (k:Nat):Bool:=
 match l[k]? with
 |none=>true
 |some x=> !EZ x||(match k with|0=>false|j+1=>match l[j]? with|none=>true|some y=> !Hd (hiE y) (loE x))
def FY (l:List Ivl):Int:=if (List.range l.length).any (Cx l) then 1 else if l.length>32 then 4 else 0
theorem Ec {n k:Nat} {f:Nat→Bool} (hk:k <n) (h:f k=true):(List.range n).any f=true:=by
 rw[AVz];exact⟨k,by simpa using hk,h⟩
theorem GD {n:Nat} {f:Nat→Bool} (h:∀k <n,f k=false):(List.range n).any f=false:=by
 rw[AU7];intro k hk;simpa using h k (by simpa using hk)
theorem Sp {x:Ivl} (h:EZ x=true):(loE x).b∧(hiE x).b:=by
 unfold EZ at h;simp at h;exact⟨wC h.1.1,wG h.1.2⟩
theorem APw (l:List Ivl) (hl:∀x∈l,x.ok) (hn:l.length≤2^40):PX 246 [.list (l.map Ivl.V)] [.int .i64 (FY l)]:=by
 refine AK ASS rfl ?_;simp only[ANQ,AB,AA,AF,jI,jH,AY];simp;refine Ae l.length (λk s=>s.e=[(0,.v (.list (l.map Ivl.V))),(9,.v (.list (l.map Ivl.V))),(10,.v (.int .i64 l.length)),(11,.v (.int .i64 k))]∧∀j <k,Cx l j=false) ⟨rfl,by omega⟩ ?_;rintro k ⟨se,sh⟩ hk ⟨he,hg⟩;simp only at he;subst he;simp only[jJ,AB,AA,AF,AE,jG];simp;by_cases h1:k <l.length
 ·obtain⟨x,hx⟩:∃x,l[k]?=some x:=⟨_,ATo h1⟩;have hxm:=ATq hx;have hw:IntKind.i64.wrap ((k:Int)+1)=k+1:=AJ;have p1:=(AIO x (hl x hxm)).fsp;rw[if_pos (by omega),AD];simp only[AA,jF];simp[Ivl.V]at p1;simp[hx,Ivl.V,AO,jE];refine⟨_,_,p1 _,?_⟩;simp;cases hgx:EZ x with
  |false=>
   have hb:Cx l k=true:=by unfold Cx;rw[hx];simp[hgx]
   simp[AB,AA,AG,jD,Tn];unfold FY;rw[Ec h1 hb];rfl
  |true=>
   simp[AD,AA,jC];cases k with
   |zero=>
    have hb:Cx l 0=false:=by unfold Cx;rw[hx];simp[hgx]
    simp[AD,AA,Mj];simp at hw;simp[hw,h1];exact hb
   |succ j=>
    obtain⟨y,hy⟩:∃y,l[j]?=some y:=⟨_,ATo (by omega)⟩;have hgy:EZ y=true:=by
     have:=hg j (by omega);unfold Cx at this;rw[hy]at this;simp at this;exact this.1
    have p2:=(ACi x).fsp;have p3:=(ACi y).fsp;have p4:=(AIG (hiE y) (loE x) (Sp hgy).2 (Sp hgx).1).fsp;have hw2:IntKind.i64.wrap (j:Int)=j:=AJ;simp[Ivl.V,End.V]at p2 p3 p4;simp[AB,AA,jB];refine⟨_,_,p2 _,?_⟩;simp[AO,jA,hw2,hy,Ivl.V];refine⟨_,_,p3 _,?_⟩;simp[AO,iz];refine⟨_,_,p4 _,?_⟩;simp;cases hle:Hd (hiE y) (loE x)with
    |false=>
     have hb:Cx l (j+1)=true:=by unfold Cx;rw[hx];simp[hgx,hy,hle]
     simp[AE,AB,AA,AG,Tm,Tn];unfold FY;rw[Ec h1 hb];rfl
    |true=>
     have hb:Cx l (j+1)=false:=by unfold Cx;rw[hx];simp[hgx,hy,hle]
     simp at hw;simp[AE,AD,AA,Mj,hw,h1];intro i hi;rcases AUD i (j+1)with h|h
     ·exact hg i h
     ·have:i=j+1:=by omega
      subst this;exact hb
 ·have hk2:k=l.length:=by omega
  subst hk2;rw[if_neg (by omega),AM];have p5:=(APS (l.map Ivl.V)).fsp;simp at p5;simp[Tl];refine⟨_,_,p5 _,?_⟩;simp[AG,Tn];unfold FY;rw[GD hg];simp
theorem AIC (n d:Int) (h1:i64 n) (h2:i64 d):PX 351 [A5 n d] [.bool (BO n d)]:=by
 refine AK ARZ rfl ?_;have hp:=(AIb n d h1 h2).fsp;unfold BO;simp only[AML,AB,AA,AE,Z7,AY];simp[A5]at hp ⊢;simp[Z6];refine⟨_,_,hp _,?_⟩;cases okR n d with
 |false=>simp[AG,Z8]
 |true=>
  by_cases b1: -1073741824≤n<;>by_cases b2:n≤1073741824<;>simp[b1,b2,AG,Z8]
theorem Wp (a b c d:Int):V.eqL [0,0] [.int .i64 a,.int .i64 b] [.int .i64 c,.int .i64 d]=some (decide (a=c∧b=d)):=by
 by_cases h1:a=c<;>by_cases h2:b=d<;>simp[V.eqL,V.eq1,h1,h2]
def Ivl.cells (x:Ivl):List D:=[.v (.int .i64 x.ln),.v (.int .i64 x.ld),.v (.int .i64 x.hn),.v (.int .i64 x.hd),.v (.bool x.lo),.v (.bool x.ho),.v (.bool x.li),.v (.bool x.hi)]
set_option maxHeartbeats 2000000 in
theorem AI1 (x:Ivl) (Q:AExit→St→Prop)
  (hQ:Q .normal ⟨[(1,.ref 0 0),(30,.v (.bool ((x.li&&(!decide (x.ln=0∧x.ld=0)||x.lo))||(x.hi&&(!decide (x.hn=0∧x.hd=0)||x.ho)))))],[.cells x.cells]⟩):
  awp Tryz.prog GLx (.reg P6 [1,30]) Q ⟨[(1,.ref 0 0)],[.cells x.cells]⟩:=by
 obtain⟨ln,ld,hn,hd,lo,ho,li,hi⟩:=x;rw[AA];simp only[Ivl.cells]at*;simp only[P6];have e1:=Wp ln ld 0 0;have e2:=Wp hn hd 0 0;generalize decide (ln=0∧ld=0)=A at*;generalize decide (hn=0∧hd=0)=B at*;cases li with
 |false=>
  cases hi with
  |false=>simpa using hQ
  |true=>cases B<;>cases ho<;>simp[e2]<;>simpa using hQ
 |true=>
  cases hi with
  |false=>cases A<;>cases lo<;>simp[e1]<;>simpa using hQ
  |true=>cases A<;>cases B<;>cases lo<;>cases ho<;>simp[e1,e2]<;>simpa using hQ
set_option maxHeartbeats 2000000 in
theorem AI0 (x:Ivl) (sl sh:Bool) (Q:AExit→St→Prop)
  (hQ:Q .normal ⟨[(1,.ref 0 0),(52,.v (.bool ((!x.li&& !sl)||(!x.hi&& !sh))))],[.cells x.cells]⟩):
  awp Tryz.prog GLx (.reg P5 [1,52]) Q ⟨[(1,.ref 0 0),(3,.v (.bool sl)),(4,.v (.bool sh))],[.cells x.cells]⟩:=by
 obtain⟨ln,ld,hn,hd,lo,ho,li,hi⟩:=x;rw[AA];simp only[Ivl.cells]at*;simp only[P5];cases li<;>cases hi<;>cases sl<;>cases sh<;>simp<;>simpa using hQ
def EH (x:Ivl):Bool:=
 if (x.li&&(!decide (x.ln=0∧x.ld=0)||x.lo))||(x.hi&&(!decide (x.hn=0∧x.hd=0)||x.ho)) then false
 else if (!x.li&& !BO x.ln x.ld)||(!x.hi&& !BO x.hn x.hd) then false
 else if x.li||x.hi then true
 else if x.ln=x.hn∧x.ld=x.hd then !x.lo&& !x.ho
 else Sh x.ln x.ld x.hn x.hd
set_option maxHeartbeats 2000000 in
theorem APH (x:Ivl) (hx:x.ok):PX 332 [x.V] [.bool (EH x)]:=by
 refine AK ARf rfl ?_;have p1:=(AIC x.ln x.ld hx.1 hx.2.1).fsp;have p2:=(AIC x.hn x.hd hx.2.2.1 hx.2.2.2).fsp;obtain⟨R,hR⟩:∃R,EH x=R:=⟨_,rfl⟩;rw[hR];unfold EH at hR;unfold AMd;rw[AB,AA];simp[ae,AY,Ivl.V];rw[AB,AB];refine AI1 x _ ?_;generalize ((x.li&&(!decide (x.ln=0∧x.ld=0)||x.lo))||(x.hi&&(!decide (x.hn=0∧x.hd=0)||x.ho)))=g1 at*
 simp[AE];cases g1 with
 |true=>simp at hR;simp[AB,AA,AG,aZ,KR,hR]
 |false=>
  simp only[AD,if_neg AWH]at hR ⊢;rw[AB,AA];simp[A5]at p1 p2;simp[aY,Ivl.cells];refine⟨_,_,p1 _,?_⟩;simp;rw[AB,AA];simp[aX,Ivl.cells];refine⟨_,_,p2 _,?_⟩;simp;rw[AB,AB];refine AI0 x (BO x.ln x.ld) (BO x.hn x.hd) _ ?_;have hs1:((!x.li&& !BO x.ln x.ld)||(!x.hi&& !BO x.hn x.hd))=false→x.li=false→x.hi=false→okR x.ln x.ld=true∧okR x.hn x.hd=true:=by
   intro h h1 h2;rw[h1,h2]at h;simp[BO]at h;exact⟨h.1.1,h.2.1⟩
  generalize ((!x.li&& !BO x.ln x.ld)||(!x.hi&& !BO x.hn x.hd))=g2 at*
  simp[AE];cases g2 with
  |true=>simp at hR;simp[AB,AA,AG,aW,KR,hR]
  |false=>
   simp only[AD,if_neg AWH]at hR ⊢;obtain⟨ln,ld,hn,hd,lo,ho,li,hi⟩:=x;simp only[Ivl.cells]at*;rw[AB,AB,AA];cases li with
   |true=>simp at hR;simp[MY,AE,AB,AA,AG,P4,KR,hR]
   |false=>
    cases hi with
    |true=>simp at hR;simp[MY,AE,AB,AA,AG,P4,KR,hR]
    |false=>
     obtain⟨o1,o2⟩:=hs1 trivial rfl rfl;have p3:=(AIB ln ld hn hd o1 o2).fsp;simp[A5]at p3;simp[MY,AE,AD];rw[AB,AB,AA];simp[aV,Wp];by_cases h3:ln=hn∧ld=hd
     ·simp[h3]at hR;cases lo<;>cases ho<;>simp at hR<;>simp[h3,AE,AB,AA,AG,TK,KR,hR]
     ·simp[h3]at hR;simp[h3,AE,AD,AB,AA,TJ];refine⟨_,_,p3 _,?_⟩;simp[AG,KR,hR]
def Kq (a b:Ivl):Bool:=
 if a.hi||b.li then false else if a.hn=b.ln∧a.hd=b.ld then a.ho&&b.lo else Sh a.hn a.hd b.ln b.ld
theorem OH {x:Ivl} (h:EH x=true) (hi:x.hi=false):BO x.hn x.hd=true:=by
 unfold EH at h;by_cases c1:((x.li&&(!decide (x.ln=0∧x.ld=0)||x.lo))||(x.hi&&(!decide (x.hn=0∧x.hd=0)||x.ho)))=true
 ·rw[if_pos c1]at h;cases h
 ·rw[if_neg c1]at h;by_cases c2:((!x.li&& !BO x.ln x.ld)||(!x.hi&& !BO x.hn x.hd))=true
  ·rw[if_pos c2]at h;cases h
  ·rw[hi]at c2;simp at c2;exact c2.2
theorem OG {x:Ivl} (h:EH x=true) (hi:x.li=false):BO x.ln x.ld=true:=by
 unfold EH at h;by_cases c1:((x.li&&(!decide (x.ln=0∧x.ld=0)||x.lo))||(x.hi&&(!decide (x.hn=0∧x.hd=0)||x.ho)))=true
 ·rw[if_pos c1]at h;cases h
 ·rw[if_neg c1]at h;by_cases c2:((!x.li&& !BO x.ln x.ld)||(!x.hi&& !BO x.hn x.hd))=true
  ·rw[if_pos c2]at h;cases h
  ·rw[hi]at c2;simp at c2;exact c2.1
theorem D9 {n d:Int} (h:BO n d=true):okR n d=true:=by unfold BO at h;simp at h;exact h.1
theorem APD (x y:Ivl) (gx:EH x=true) (gy:EH y=true):PX 353 [x.V,y.V] [.bool (Kq x y)]:=by
 refine AK ARX rfl ?_;have q1:=OH gx;have q2:=OG gy;obtain⟨R,hR⟩:∃R,Kq x y=R:=⟨_,rfl⟩;rw[hR];unfold Kq at hR;obtain⟨ln,ld,hn,hd,lo,ho,li,hi⟩:=x;obtain⟨ln',ld',hn',hd',lo',ho',li',hi'⟩:=y;simp only[Ivl.V]at*;unfold AMJ;rw[AB,AA];simp[Z3,AY];rw[AB,AB,AA];cases hi with
 |true=>simp at hR;simp[MW,AE,AB,AA,AG,Pz,OZ,hR]
 |false=>
  cases li' with
  |true=>simp at hR;simp[MW,AE,AB,AA,AG,Pz,OZ,hR]
  |false=>
   have p3:=(AIB hn hd ln' ld' (D9 (q1 rfl)) (D9 (q2 rfl))).fsp;simp[A5]at p3;simp[MW,AE,AD];rw[AB,AB,AA];simp[Z1,Wp];by_cases h3:hn=ln'∧hd=ld'
   ·simp[h3]at hR;cases ho<;>simp at hR<;>simp[h3,AE,AB,AA,AG,Z0,OZ,hR]
   ·simp[h3]at hR;simp[h3,AE,AD,AB,AA,Zz];refine⟨_,_,p3 _,?_⟩;simp[AG,OZ,hR]
theorem LZ {b a d:Int} (hc:Int.gcd b a=1) (h3:b ∣ a*d):b ∣ d:=by
 have h3n:b.natAbs ∣ a.natAbs*d.natAbs:=by rw[←Int.natAbs_mul];exact Int.natAbs_dvd_natAbs.2 h3
 have hc':Nat.Coprime b.natAbs a.natAbs:=hc;exact Int.natAbs_dvd_natAbs.1 (hc'.dvd_of_dvd_mul_left h3n)
theorem Nr {a b c d:Int} (h1:okR a b=true) (h2:okR c d=true) (h:a*d=c*b):a=c∧b=d:=by
 unfold okR at h1 h2;simp at h1 h2;obtain⟨b1,_,_,_,g1⟩:=h1;obtain⟨d1,_,_,_,g2⟩:=h2;have e1:b ∣ d:=by
  have h3:b ∣ a*d:=by rw[h];exact Int.dvd_mul_left _ _
  have:Int.gcd b a=1:=by rw[Int.gcd_comm];exact g1
  exact LZ this h3
 have e2:d ∣ b:=by
  have h3:d ∣ c*b:=by rw[←h];exact Int.dvd_mul_left _ _
  have:Int.gcd d c=1:=by rw[Int.gcd_comm];exact g2
  exact LZ this h3
 have e3:b=d:=by
  have:=Int.le_of_dvd (by omega) e1;have:=Int.le_of_dvd (by omega) e2;omega
 subst e3;exact⟨Int.eq_of_mul_eq_mul_right (by omega) h,rfl⟩
theorem GS (x:Ivl):EH x=EZ x:=by
 obtain⟨ln,ld,hn,hd,lo,ho,li,hi⟩:=x;unfold EZ EH Ky;cases li<;>cases hi<;>simp only[loE,hiE,Hd]
 ·cases hs1:BO ln ld<;>cases hs2:BO hn hd<;>simp
  have r:=Nr (D9 hs1) (D9 hs2);by_cases h3:ln=hn∧ld=hd
  ·obtain⟨rfl,rfl⟩:=h3;simp
  ·rw[if_neg h3];rw[if_neg (λh=>h3 (r h))];rfl
 ·generalize hA:decide (hn=0∧hd=0)=A;cases A<;>cases ho<;>cases BO ln ld<;>simp
 ·simp
 ·simp
theorem SL (x y:Ivl) (gx:EH x=true) (gy:EH y=true):Kq x y=Hd (hiE x) (loE y):=by
 have q1:=OH gx;have q2:=OG gy;obtain⟨ln,ld,hn,hd,lo,ho,li,hi⟩:=x;obtain⟨ln',ld',hn',hd',lo',ho',li',hi'⟩:=y;unfold Kq;cases hi<;>cases li'<;>simp only[loE,hiE,Hd]
 ·simp at q1 q2;have r:=Nr (D9 q1) (D9 q2);by_cases h3:hn=ln'∧hd=ld'
  ·obtain⟨rfl,rfl⟩:=h3;simp
  ·simp;rw[if_neg h3,if_neg (λh=>h3 (r h))];rfl
 ·simp
 ·simp
 ·simp
theorem APF (l:List Ivl) (hl:∀x∈l,x.ok) (hn:l.length≤2^40):PX 338 [.list (l.map Ivl.V)] [.int .i64 (FY l)]:=by
 refine AK ARd rfl ?_;simp only[AMb,AB,AA,AF,aJ,aI,AY];simp;refine BK l.length (λk=>⟨[(0,.v (.list (l.map Ivl.V))),(3,.v (.int .i64 k))],[]⟩) (λk=>∀j <k,Cx l j=false) (by simp) (by omega) ?_;intro k hk hg;simp only[aK,AB,AA,AF,AE,aH];simp;by_cases h1:k <l.length
 ·obtain⟨x,hx⟩:∃x,l[k]?=some x:=⟨_,ATo h1⟩;have hxm:=ATq hx;have hw:IntKind.i64.wrap ((k:Int)+1)=k+1:=AJ;have p1:=(APH x (hl x hxm)).fsp;rw[if_pos (by omega),AD];simp only[AA,aG];simp[Ivl.V]at p1;simp[hx,Ivl.V];refine⟨_,_,p1 _,?_⟩;simp only[Aa,aF];simp;cases hgx:EH x with
  |false=>
   have hb:Cx l k=true:=by unfold Cx;rw[hx];simp[←GS,hgx]
   simp[AB,AA,AE,AG,P1,Oa];unfold FY;rw[Ec h1 hb];rfl
  |true=>
   cases k with
   |zero=>
    have hb:Cx l 0=false:=by unfold Cx;rw[hx];simp[←GS,hgx]
    simp at hw;simp[AD,AE,AA,P2,hw,h1];exact hb
   |succ j=>
    obtain⟨y,hy⟩:∃y,l[j]?=some y:=⟨_,ATo (by omega)⟩;have hgy:EH y=true:=by
     have:=hg j (by omega);unfold Cx at this;rw[hy]at this;simp at this;rw[GS];exact this.1
    have p2:=APD y x hgy hgx;rw[SL y x hgy hgx]at p2;have hw2:IntKind.i64.wrap (j:Int)=j:=AJ;simp[Ivl.V]at p2;have h9:(0:Int) <(j:Int)+1:=by omega
    have h10:(0:Int)≤(j:Int)+1:=by omega
    simp[hw2,hy,Ivl.V,hx,h9,h10];refine⟨_,_,⟨rfl,rfl⟩,_,p2,?_⟩;simp;cases hle:Hd (hiE y) (loE x)with
    |false=>
     have hb:Cx l (j+1)=true:=by unfold Cx;rw[hx];simp[hy,hle]
     simp[AE,AB,AA,AG,P1,Oa];unfold FY;rw[Ec h1 hb];rfl
    |true=>
     have hb:Cx l (j+1)=false:=by unfold Cx;rw[hx];simp[←GS,hgx,hy,hle]
     simp at hw;simp[AE,AD,AA,P2,hw,h1];intro i hi;rcases AUD i (j+1)with h|h
     ·exact hg i h
     ·have:i=j+1:=by omega
      subst this;exact hb
 ·have hk2:k=l.length:=by omega
  subst hk2;rw[if_neg (by omega),AM];simp only[AA,AB,AE,aE];unfold FY;rw[GD hg];by_cases h:32 <(l.length:Int)
  ·have h':32 <l.length:=by omega
   simp[h,h',AB,AA,AG,aD,Oa]
  ·have h':¬32 <l.length:=by omega
   simp[h,h',AD,AA,AG,aC,Oa]
inductive F where
 |mk (op n:Int) (ins:List Ivl) (kids:List F)
def F.op:F→Int| .mk o _ _ _=>o
def F.n:F→Int| .mk _ n _ _=>n
def F.ins:F→List Ivl| .mk _ _ i _=>i
def F.kids:F→List F| .mk _ _ _ k=>k
theorem F.ind {p:F→Prop} (h:∀op n ins kids,(∀k∈kids,p k)→p (.mk op n ins kids)) (f:F):p f:=
 F.rec (motive_1:=p) (motive_2:=λl=>∀k∈l,p k) (λop n ins kids ih=>h op n ins kids ih) (λk hk=>by cases hk)
  (λx xs hx hxs k hk=>by cases hk with|head=>exact hx|tail _ hk=>exact hxs k hk) f
mutual
def F.V:F→V| .mk op n ins kids=> .agg [.int .i64 op,.int .i64 n,.list (ins.map Ivl.V),.list (F.Vs kids)]
def F.Vs:List F→List V|[]=>[]|k::ks=>k.V::F.Vs ks
end
theorem F.Vs_map:∀l,F.Vs l=l.map F.V
 |[]=>rfl
 |k::ks=>by simp[F.Vs,F.Vs_map ks]
mutual
def F.nodes:F→List F| .mk op n ins kids=> .mk op n ins kids::F.nodess kids
def F.nodess:List F→List F|[]=>[]|k::ks=>k.nodes++F.nodess ks
end
theorem F.nodess_map:∀l,F.nodess l=l.flatMap F.nodes
 |[]=>rfl
 |k::ks=>by simp[F.nodess,F.nodess_map ks]
def F.size (f:F):Nat:=f.nodes.length
mutual
def F.depth:F→Nat| .mk _ _ _ kids=>F.depths kids+1
def F.depths:List F→Nat|[]=>0|k::ks=>max k.depth (F.depths ks)
end
theorem F.size_eq (op n:Int) (ins:List Ivl) (kids:List F):(F.mk op n ins kids).size=1+(kids.map F.size).sum:=by
 unfold F.size;simp only[F.nodes,AUA,F.nodess_map,AWI];have e:(λf:F=>f.size)=λf=>f.nodes.length:=rfl;rw[Nat.add_comm]
theorem F.kid_size {f:F} {kids:List F} (h:f∈kids):f.size≤(kids.map F.size).sum:=by
 induction kids with
 |nil=>cases h
 |cons k ks ih=>
  simp only[ATz,AUz];cases h with
  |head=>omega
  |tail _ h=>have:=ih h;omega
theorem F.size_pos (f:F):1≤f.size:=by cases f;rw[F.size_eq];omega
theorem F.kids_len (kids:List F):kids.length≤(kids.map F.size).sum:=by
 induction kids with
 |nil=>simp
 |cons k ks ih=>have:=k.size_pos;simp only[ATz,AUz,AUA];omega
theorem F.nodes_eq (op n:Int) (ins:List Ivl) (kids:List F):(F.mk op n ins kids).nodes= .mk op n ins kids::kids.flatMap F.nodes:=by
 simp[F.nodes,F.nodess_map]
theorem F.V_eq (op n:Int) (ins:List Ivl) (kids:List F):(F.mk op n ins kids).V= .agg [.int .i64 op,.int .i64 n,.list (ins.map Ivl.V),.list (kids.map F.V)]:=by
 simp[F.V,F.Vs_map]
theorem F.depth_le:∀f:F,f.depth≤f.size:=by
 refine F.ind λop n ins kids ih=>?_;rw[F.size_eq,F.depth];have:F.depths kids≤(kids.map F.size).sum:=by
  induction kids with
  |nil=>simp[F.depths]
  |cons k ks ihk=>
   have h1:=ih k (by simp);have h2:=ihk λx hx=>ih x (by simp[hx]);simp only[F.depths,ATz,AUz];omega
 omega
def F.ok1 (f:F):Prop:=i64 f.op∧i64 f.n∧(∀x∈f.ins,x.ok)∧f.ins.length≤2^40
def F.ok (f:F):Prop:=(∀g∈f.nodes,g.ok1)∧f.size≤2^40
theorem F.ok_kid {op n:Int} {ins:List Ivl} {kids:List F} (h:(F.mk op n ins kids).ok) {k:F} (hk:k∈kids):k.ok:=by
 refine⟨λg hg=>h.1 g ?_,?_⟩
 ·rw[F.nodes_eq];exact AVI _ (AUb.2 ⟨k,hk,hg⟩)
 ·have:=h.2;rw[F.size_eq]at this;have:=F.kid_size hk;omega
def Ax (f:F):Bool:=
 if (f.op≠2∧0 <f.ins.length)∨(f.op≠2∧f.op≠1∧f.n≠0) then false
 else if f.op=0 then f.kids.length==0
 else if f.op=1 then decide (f.kids.length=0∧0≤f.n∧f.n <64)
 else if f.op=2 then decide (f.kids.length=0∧0≤f.n∧f.n <32∧FY f.ins=0)
 else if f.op=3∨f.op=6 then f.kids.length==1
 else decide (f.op=4∨f.op=5)
def BH (f:F):Int:=if f.size>96∨f.depth>8 then 4 else if f.nodes.all Ax then 0 else 1
def F.cells (f:F):List D:=[.v (.int .i64 f.op),.v (.int .i64 f.n),.v (.list (f.ins.map Ivl.V)),.v (.list (f.kids.map F.V))]
theorem F.ok1_self {f:F} (h:f.ok):f.ok1:=h.1 f (by cases f;rw[F.nodes_eq];exact AWE)
theorem V8 {l:List F} {k:Nat} {x:F} (hx:l[k]?=some x) (f:F→Nat):((l.map f).take (k+1)).sum=((l.map f).take k).sum+f x:=by
 rw[AUE,AT0,hx];simp
theorem Nh (l:List F) (k:Nat) (f:F→Nat):((l.map f).take k).sum≤(l.map f).sum:=by
 have:=congrArg (λl=>l.sum) (AUe k (l.map f));simp only[List.sum_append]at this;omega
theorem Lv {l:List F} {f:F→Nat}:(l.map f).take l.length=l.map f:=AUG (by simp)
theorem APd:∀f:F,f.ok→PX 285 [f.V] [.int .i64 f.size]:=by
 refine F.ind λop n ins kids ih hok=>?_;refine AK AR6 rfl ?_;have hsz:=hok.2;rw[F.size_eq]at hsz ⊢;have hkl:=F.kids_len kids;simp only[AM2,AB,AA,AF,eP,eO,eN,AY];simp[F.V_eq];refine Ac kids.length (λk=>⟨[(1,.ref 0 0),(3,.v (.int .i64 (1+((kids.map F.size).take k).sum:Nat))),(4,.v (.int .i64 k))],[.cells (F.mk op n ins kids).cells]⟩) (by simp[F.cells,F.op,F.n,F.ins,F.kids]) ?_;intro k hk;simp only[eQ,AB,AA,AF,AE,eM,F.cells,F.op,F.n,F.ins,F.kids];simp;by_cases h1:k <kids.length
 ·obtain⟨x,hx⟩:∃x,kids[k]?=some x:=⟨_,ATo h1⟩;have hxm:=ATq hx;have hw:IntKind.i64.wrap ((k:Int)+1)=k+1:=AJ;have p1:=(ih x hxm (F.ok_kid hok hxm)).fsp;have ht:=V8 hx F.size;have hle:=Nh kids (k+1) F.size;have hw2:IntKind.i64.wrap (1+(((kids.map F.size).take k).sum:Int)+x.size)=1+(((kids.map F.size).take (k+1)).sum:Int):=by
   rw[AJ];omega
  rw[if_pos (by omega),AD];simp only[AA,eL,eK];obtain⟨xo,xn,xi,xk⟩:=x;simp[F.V_eq]at p1;simp[hx,F.V_eq];refine⟨_,_,p1 _,?_⟩;simp[hw,hw2,h1]
 ·have hk2:k=kids.length:=by omega
  subst hk2;rw[if_neg (by omega),AM];simp[AA,AG,eJ,AAY,Lv]
theorem JB {l:List F} {k:Nat} {x:F} (hx:l[k]?=some x):F.depths (l.take (k+1))=max (F.depths (l.take k)) x.depth:=by
 induction l generalizing k with
 |nil=>simp at hx
 |cons y l ih=>
  cases k with
  |zero=>simp at hx;subst hx;simp[F.depths]
  |succ k=>simp at hx;simp only[List.take_succ_cons,F.depths,ih hx];omega
theorem La (l:List F):F.depths l≤(l.map F.size).sum:=by
 induction l with
 |nil=>simp[F.depths]
 |cons k ks ih=>have:=F.depth_le k;simp only[F.depths,ATz,AUz];omega
theorem APc:∀f:F,f.ok→PX 286 [f.V] [.int .i64 f.depth]:=by
 refine F.ind λop n ins kids ih hok=>?_;refine AK AR5 rfl ?_;have hsz:=hok.2;rw[F.size_eq]at hsz;have hkl:=F.kids_len kids;have hdl:=La kids;simp only[AM1,AB,AA,AF,eH,eG,eF,AY];simp[F.V_eq];refine Ac kids.length (λk=>⟨[(1,.ref 0 0),(3,.v (.int .i64 (F.depths (kids.take k)))),(4,.v (.int .i64 k))],[.cells (F.mk op n ins kids).cells]⟩) (by simp[F.cells,F.op,F.n,F.ins,F.kids,F.depths]) ?_;intro k hk;simp only[eI,AB,AA,AF,AE,eE,F.cells,F.op,F.n,F.ins,F.kids];simp;by_cases h1:k <kids.length
 ·obtain⟨x,hx⟩:∃x,kids[k]?=some x:=⟨_,ATo h1⟩;have hxm:=ATq hx;have hw:IntKind.i64.wrap ((k:Int)+1)=k+1:=AJ;have p1:=(ih x hxm (F.ok_kid hok hxm)).fsp;have ht:=JB hx;rw[if_pos (by omega),AD];simp only[AA,eD,dz];obtain⟨xo,xn,xi,xk⟩:=x;simp[F.V_eq]at p1;simp[hx,F.V_eq];refine⟨_,_,p1 _,?_⟩;simp[hw,h1,ht];split<;>omega
 ·have hk2:k=kids.length:=by omega
  subst hk2;rw[if_neg (by omega),AM];have hw2:IntKind.i64.wrap ((F.depths kids:Int)+1)=F.depths kids+1:=AJ;simp[AA,AG,dy,AAX,hw2,F.depth]
end Go.Va
