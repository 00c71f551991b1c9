/- Laws that ExtractBytes leans on, part 5. No condition of its own. -/
import Derived.Test.YtopldfpkgbkomaaGreatDoorL03
set_option linter.all false
set_option maxRecDepth 100000
set_option maxHeartbeats 4000000
noncomputable section
namespace Go.Va
open Go.Proofs
section
variable {s:St} {Q:AExit→St→Prop} {q:Opd}
theorem FK {P:Program} {GL:Ac} {ps:List Nat} {asg body:AC} (fid:Nat) (caps rets:List D) (h1 h':List Row) (tag:Tag)
  (hq:Dt (q.ev s.e)=some (fid,caps)) (hh:s.h++[BF P GL .ready (L3 s.e) ps asg body]=h1) (hf:FSp P GL fid (.yld s.h.length::caps) h1 rets h')
  (hr:h'[s.h.length]?=some (BF P GL tag (L3 s.e) ps asg body)) (he:EE Q ⟨s.e,h'.set s.h.length .dead⟩ tag):awp P GL (.rangeF q ps asg body) Q s:=by
 rw[MF];exact⟨fid,caps,rets,h',tag,hq,hh▸hf,hr,he⟩
end
def Pe (label bs:List Int):Int:=Od label ((BV bs).map IntKind.i64.wrap++[(bs.length:Int)])
theorem kW (b:ByteArray) (xs:List Int) (hx:∀x∈xs,0≤x∧x <256) (hb:b.size≤2^39) (hl:xs.length≤2^39):PX 236 [.str b,AH .u8 xs] [.int .u64 (Pe (CS b) xs)]:=by
 refine BU 236 ?_;have hlw:(BV xs).length=(xs.length+7)/8:=by simp[BV]
 simp only[At 236,AE,AG,AU,AA 236 0,AA 236 1,AA 236 2,AA 236 3,AV];simp;refine⟨_,_,(dv xs hx (by omega)).fsp _,?_⟩;simp;refine AM (BV xs).length (λk=>⟨[(0,.v (.str b)),(1,.v (AH .u8 xs)),(5,.v (AH .u64 (BV xs))),(6,.own 3 1 ((((BV xs).take k).map IntKind.i64.wrap).map (.int .i64))),(7,.v (.int .i64 k))],[]⟩) (by simp) ?_;intro k hk;simp only[Zw,BA 236 0,AA 236 4];simp[AH];by_cases h1:k <(BV xs).length
 ·obtain⟨w,hw⟩:∃w,(BV xs)[k]?=some w:=⟨_,qH h1⟩;have hw2:=Bo k;have e:((BV xs).take (k+1)).map IntKind.i64.wrap=((BV xs).take k).map IntKind.i64.wrap++[IntKind.i64.wrap w]:=by
   rw[qc,hw];simp
  have hroom:AK (min k (BV xs).length+1) 8=true:=by simp[AK];omega
  rw[if_pos (by omega),AB];simp only[AA 236 5,AA 236 6];have hw3:=(qK.1 hw).2;simp[hroom,EG,h1,hw2,hw3];rw[qc,qZ,hw];simp
 ·have:k=(BV xs).length:=by omega
  subst this;rw[if_neg (by omega),AJ];have hroom:AK ((BV xs).length+1) 8=true:=by simp[AK];omega
  have hp:=jF b ((BV xs).map IntKind.i64.wrap++[(xs.length:Int)]) hb (by simp;omega);have hp2:=hp.fsp;simp[AH]at hp2;have e6:List.take (BV xs).length (List.map (V.int IntKind.i64 ∘ IntKind.i64.wrap) (BV xs))=List.map (V.int IntKind.i64 ∘ IntKind.i64.wrap) (BV xs):=qw (by simp);simp[AA 236 7,hroom,e6];refine⟨_,_,hp2 _,?_⟩;simp[AD,AX 236,Pe]
section
variable {s:St} {Q:AExit→St→Prop}
section
variable {P:Program} {GL:Ac}
theorem Ao {c:AC} (n:Nat) (S:Nat→St) (I:Nat→Prop) (hs:s=S 0) (h0:I 0)
  (h:∀k,k≤n→I k→awp P GL c (λe s'=>match e with| .normal=>k <n∧I (k+1)∧s'=S (k+1)|e=>Q e s') (S k)):awp P GL (.loop c) Q s:=by
 subst hs;refine⟨λm s=>∃k,k≤n∧m=n-k∧I k∧s=S k,⟨n,0,rF _,rfl,h0,rfl⟩,?_⟩;rintro m s ⟨k,hk,rfl,hi,rfl⟩;refine AZ c ?_ (h k hk hi);intro e s' h;cases e with
 |normal=>obtain⟨hlt,hi',rfl⟩:=h;exact⟨n-(k+1),by omega,k+1,hlt,rfl,hi',rfl⟩
 |exit i=>exact h
 |ret=>exact h
end
def En (n d:Int):Bool:=decide (1≤d∧d≤1048576∧n≤1099511627776∧ -1099511627776≤n∧Int.gcd n d=1)
def BL (n d:Int):V:= .agg [.int .i64 n,.int .i64 d]
theorem mr (m:Nat):∀(a b:Nat),b≤m→a <2^64→b <2^64→
  awp Tryz.prog An (.loop (lG 350 0)) (λe s=>e= .exit 0∧AF s.e 0= .v (.int .u64 (Nat.gcd a b))) ⟨[(0,.v (.int .u64 a)),(1,.v (.int .u64 b))],[]⟩:=by
 induction m with
 |zero=>
  intro a b hb h1 h2;have:b=0:=by omega
  subst this;refine Aa ?_;simp only[Zw,BA 350 0,AA 350 1];simp[AJ]
 |succ m ih=>
  intro a b hb h1 h2;by_cases h0:b=0
  ·exact ih a b (by omega) h1 h2
  ·have hlt:=Nat.mod_lt a (show 0 <b by omega);have hih:=ih b (a%b) (by omega) h2 (by omega);have e:Nat.gcd b (a%b)=Nat.gcd a b:=by rw[Nat.gcd_comm,←Nat.gcd_rec,Nat.gcd_comm]
   rw[e]at hih;refine A5 ?_ hih;simp only[Zw,BA 350 0,AA 350 1];have w1:IntKind.u64.wrap ((a:Int)%b)=((a%b:Nat):Int):=by rw[BM (by omega) (by omega)];rfl
   have h3:0 <b:=by omega
   simp[h3,AB,AW,AA 350 2,tx,h0]
theorem jV (a b:Nat) (h1:a <2^64) (h2:b <2^64):PX 350 [.int .u64 a,.int .u64 b] [.int .u64 (Nat.gcd a b)]:=by
 refine BU 350 ?_;simp only[At 350,AE,AU,AG,AA 350 0,AV];simp;refine AZ _ ?_ (mr b a b (qM _) h1 h2);rintro e s ⟨rfl,h⟩;simp[AA 350 3,h,AD,AX 350]
theorem dL (n:Int) (hn:i64 n):PX 330 [.int .i64 n] [.int .u64 n.natAbs]:=by
 refine BU 330 ?_;unfold i64 at hn;by_cases h0:n <0
 ·simp[At 330,awp,AA 330 0,AA 330 1,AA 330 2,AX 330,AV,h0];simp only[D9];omega
 ·simp[At 330,awp,AA 330 0,AA 330 1,AA 330 3,AX 330,AV,h0];simp only[D9];omega
def H5 (neg:Bool) (n d:Nat):List V:=
 if n/Nat.gcd n d>1099511627776∨d/Nat.gcd n d>1048576 then [BL 0 0,.int .i64 5]
 else [BL (if neg then -((n/Nat.gcd n d:Nat):Int) else ((n/Nat.gcd n d:Nat):Int)) ((d/Nat.gcd n d:Nat):Int),.int .i64 0]
theorem ja (neg:Bool) (n d:Nat) (h1:n <2^64) (h2:d <2^64) (hd:0 <d):PX 329 [.bool neg,.int .u64 n,.int .u64 d] (H5 neg n d):=by
 refine BU 329 ?_;have hg:0 <Nat.gcd n d:=Nat.gcd_pos_of_pos_right _ hd;have hn1:=Nat.div_le_self n (Nat.gcd n d);have hd1:=Nat.div_le_self d (Nat.gcd n d);have hp:=jV n d h1 h2;unfold H5;generalize Nat.gcd n d=g at*;have qa:(n:Int)/g=((n/g:Nat):Int):=rfl;have qb:(d:Int)/g=((d/g:Nat):Int):=rfl;generalize n/g=a at*;generalize d/g=b at*;have w1:IntKind.u64.wrap (a:Int)=a:=BM (by omega) (by omega);have w2:IntKind.u64.wrap (b:Int)=b:=BM (by omega) (by omega);have hg0:g≠0:=by omega
 simp only[At 329,AE,AG,AW,AL,AA 329 0,AA 329 1,AA 329 2,AA 329 3,AV];simp;refine⟨_,_,hp.fsp _,?_⟩;simp[ta,qa,qb,w1,w2,hg0];have w3:IntKind.i64.wrap (a:Int)=a∨1099511627776 <a:=by
  by_cases h:a≤1099511627776
  ·exact .inl (AQ)
  ·exact .inr (by omega)
 by_cases h3:1099511627776 <(a:Int)
 ·have h3':1099511627776 <a:=by omega
  simp[h3,h3',AD,AA 329 4,AX 329,AS,BL]
 ·have h3':¬1099511627776 <a:=by omega
  by_cases h4:1048576 <(b:Int)
  ·have h4':1048576 <b:=by omega
   simp[h3,h3',h4,h4',AD,AA 329 4,AX 329,AS,BL]
  ·have h4':¬1048576 <b:=by omega
   have w5:IntKind.i64.wrap (a:Int)=a:=AQ;have w6:IntKind.i64.wrap (b:Int)=b:=AQ;have w7:IntKind.i64.wrap (-(a:Int))= -a:=AQ;cases neg<;>simp[h3,h3',h4,h4',AB,AD,AA 329 5,AA 329 6,AA 329 7,AA 329 8,AX 329,AS,BL,w5,w6,w7]
theorem TW (n d:Int) (hd:1≤d) (h1:i64 n) (h2:i64 d):(H5 (decide (n <0) != decide (d <0)) n.natAbs d.natAbs=[BL n d,.int .i64 0])↔En n d=true:=by
 unfold H5 En;unfold i64 at h1 h2;have e:Int.gcd n d=Nat.gcd n.natAbs d.natAbs:=rfl;have hg:0 <Nat.gcd n.natAbs d.natAbs:=Nat.gcd_pos_of_pos_right _ (by omega);have hdn:decide (d <0)=false:=by simp;omega
 simp only[hdn];rw[e]
 constructor
 ·intro h;split at h
  ·simp[BL]at h
  ·rename_i hc;simp[BL]at h;have hb:d.natAbs/Nat.gcd n.natAbs d.natAbs=d.natAbs:=by omega
   have hg1:Nat.gcd n.natAbs d.natAbs=1:=by
    rcases qi 1 (Nat.gcd n.natAbs d.natAbs)with h3|h3
    ·have:=Nat.div_lt_self (show 0 <d.natAbs by omega) h3;omega
    ·omega
   rw[hg1]at hc;simp[hg1]at hc ⊢;omega
 ·intro h;simp at h;obtain⟨h3,h4,h5,h6,h7⟩:=h;rw[h7];rw[if_neg (by simp;omega)];simp[BL]
  constructor
  ·split<;>omega
  ·omega
theorem MC (neg:Bool) (n d:Nat):H5 neg n d=[BL 0 0,.int .i64 5]∨∃a b,H5 neg n d=[BL a b,.int .i64 0]:=by
 unfold H5;split
 ·exact .inl rfl
 ·exact .inr ⟨_,_,rfl⟩
theorem jm (n d:Int) (hd:d≠0) (h1:i64 n) (h2:i64 d):PX 306 [.int .i64 n,.int .i64 d] (H5 (decide (n <0) != decide (d <0)) n.natAbs d.natAbs):=by
 refine BU 306 ?_;simp only[At 306,AE,AG,AL,AA 306 0,AA 306 1,AV];simp[hd,AB,AA 306 3];refine⟨_,_,(dL n h1).fsp _,?_⟩;simp;refine⟨_,_,(dL d h2).fsp _,?_⟩;simp;have hx:(decide (n <0) != decide (d <0))= !(decide (n <0)==decide (d <0)):=rfl
 try rw[←hx]
 unfold i64 at h1 h2;refine⟨_,_,(ja _ n.natAbs d.natAbs (by omega) (by omega) (by omega)).fsp _,?_⟩;generalize (decide (n <0) != decide (d <0))=ng;obtain h|⟨a,b,h⟩:=MC ng n.natAbs d.natAbs<;>rw[h]<;>simp[BL,AD,AX 306,AS]
theorem Zi (n d:Int) (h1:i64 n) (h2:i64 d):PX 248 [BL n d] [.int .i64 (if En n d then 0 else 1)]:=by
 refine BU 248 ?_;simp only[At 248,AE,AG,AL,AA 248 0,AA 248 1,AV];simp[BL];by_cases hd:d <1
 ·have:En n d=false:=by unfold En;simp;omega
  simp[hd,this,AD,AA 248 2,AX 248]
 ·have hp:=(jm n d (by omega) h1 h2);have hb:=TW n d (by omega) h1 h2;simp[hd,AB,AA 248 3];refine⟨_,_,hp.fsp _,?_⟩;obtain h|⟨a,b,h⟩:=MC (decide (n <0) != decide (d <0)) n.natAbs d.natAbs
  ·have h3:En n d=false:=by
    cases h4:En n d with
    |false=>rfl
    |true=>rw[hb.2 h4]at h;simp at h
   rw[h,h3];simp[BL,AD,AA 248 4,AA 248 5,AX 248,AS]
  ·have h3:En n d=decide (a=n∧b=d):=by
    rw[h]at hb;simp[BL]at hb;rw[sL,←hb];simp
   rw[h,h3];by_cases h4:a=n<;>by_cases h5:b=d<;>simp[h4,h5,BL,AD,AA 248 4,AA 248 5,AA 248 6,AX 248,AS,V.eqL,V.eq1]
theorem PE {n d:Int} (h:En n d=true):1≤d∧d≤1048576∧n≤1099511627776∧ -1099511627776≤n:=by
 unfold En at h;simp at h;omega
theorem Ry {a b:Int} (h1:a≤1099511627776) (h2: -1099511627776≤a) (h3:1≤b) (h4:b≤1048576):a*b≤1152921504606846976∧ -1152921504606846976≤a*b:=by
 have:=ry h1 (show 0≤b by omega);have:=ry h2 (show 0≤b by omega);omega
theorem XB (L:List V) (k:Nat) (hk:k <2^40) (n d:Int) (h1:i64 n) (h2:i64 d) (hx:L[k]?=some (BL n d)) (m:Int) (hm:(k:Int) <m) (h:List Row) (Q:AExit→St→Prop)
  (hok:En n d=true→Q .normal ⟨[(6,.v (.list L)),(7,.v (.int .i64 m)),(8,.v (.int .i64 (k+1:Nat)))],h++[.cells [.v (.int .i64 n),.v (.int .i64 d)]]⟩)
  (hno:En n d=false→∀s,AF s.e 2= .v (.int .i64 1)→Q .ret s):
  awp Tryz.prog An (lG 291 0) Q ⟨[(6,.v (.list L)),(7,.v (.int .i64 m)),(8,.v (.int .i64 k))],h⟩:=by
 have hw:=Bo k;simp only[Zw,BA 291 0,AA 291 2];simp[hm,AB,AA 291 3,hx,BL,AS,AA 291 4];refine⟨_,_,(Zi n d h1 h2).fsp _,?_⟩;cases ho:En n d with
 |true=>
  have:=hok ho;simp[AA 291 5,AA 291 7,hw];simpa using this
 |false=>
  simp[AA 291 5,AD,AA 291 6];exact hno ho _ rfl
theorem js (a b c d:Int) (h1:i64 a) (h2:i64 b) (h3:i64 c) (h4:i64 d):PX 291 [.list [BL a b,BL c d]] [.int .i64 (if En a b&&En c d then 0 else 1)]:=by
 refine BU 291 ?_;simp only[At 291,AE,AG,AU,AA 291 0,AA 291 1,AV];simp;cases ho:En a b with
 |false=>
  refine Aa ?_;refine XB [BL a b,BL c d] 0 (by omega) a b h1 h2 rfl 2 (by omega) [] _ (λh=>by rw[h]at ho;cases ho) ?_;intro _ s hs;simp[AX 291,hs]
 |true=>
  refine A5 (s1:=⟨[(6,.v (.list [BL a b,BL c d])),(7,.v (.int .i64 2)),(8,.v (.int .i64 1))],[.cells [.v (.int .i64 a),.v (.int .i64 b)]]⟩) ?_ ?_
  ·exact XB [BL a b,BL c d] 0 (by omega) a b h1 h2 rfl 2 (by omega) [] _ (λ_=>rfl) (λh=>by rw[h]at ho;cases ho)
  cases ho2:En c d with
  |false=>
   refine Aa ?_;refine XB [BL a b,BL c d] 1 (by omega) c d h3 h4 rfl 2 (by omega) [.cells [.v (.int .i64 a),.v (.int .i64 b)]] _ (λh=>by rw[h]at ho2;cases ho2) ?_;intro _ s hs;simp[AX 291,hs]
  |true=>
   refine A5 (s1:=⟨[(6,.v (.list [BL a b,BL c d])),(7,.v (.int .i64 2)),(8,.v (.int .i64 2))],[.cells [.v (.int .i64 a),.v (.int .i64 b)],.cells [.v (.int .i64 c),.v (.int .i64 d)]]⟩) ?_ ?_
   ·exact XB [BL a b,BL c d] 1 (by omega) c d h3 h4 rfl 2 (by omega) [.cells [.v (.int .i64 a),.v (.int .i64 b)]] _ (λ_=>rfl) (λh=>by rw[h]at ho2;cases ho2)
   refine Aa ?_;simp only[Zw,BA 291 0,AA 291 2];simp[AJ,AD,AA 291 8,AX 291]
def Hm (a b c d:Int):Bool:=decide (a*d <c*b)
def P0 (a b c d:Int):Int:=if a*d <c*b then -1 else if c*b <a*d then 1 else 0
theorem jr (a b c d:Int) (h1:En a b=true) (h2:En c d=true):PX 292 [BL a b,BL c d] [.int .i64 (P0 a b c d)]:=by
 refine BU 292 ?_;have q1:=PE h1;have q2:=PE h2;have m1:=Ry (a:=a) (b:=d) (by omega) (by omega) (by omega) (by omega);have m2:=Ry (a:=c) (b:=b) (by omega) (by omega) (by omega) (by omega);unfold P0;have w1:IntKind.i64.wrap (a*d)=a*d:=AQ;have w2:IntKind.i64.wrap (c*b)=c*b:=AQ;simp only[Zw,At 292,AW,AA 292 0,AA 292 1,AA 292 2,AV];simp[BL,w1,w2];by_cases l1:a*d <c*b
 ·simp[l1,AD,AA 292 3,AX 292]
 ·by_cases l2:c*b <a*d
  ·simp[l1,l2,AD,AA 292 4,AA 292 5,AX 292]
  ·simp[l1,l2,AB,AD,AA 292 4,AA 292 6,AX 292]
theorem ke (a b c d:Int) (h1:i64 a) (h2:i64 b) (h3:i64 c) (h4:i64 d):PX 227 [BL a b,BL c d] (if En a b&&En c d then [.int .i64 (P0 a b c d),.int .i64 0] else [.int .i64 0,.int .i64 1]):=by
 refine BU 227 ?_;have hp:=(js a b c d h1 h2 h3 h4).fsp;simp only[At 227,AE,AG,AL,AA 227 0,AA 227 1,AA 227 2,AV];simp[BL]at hp ⊢;refine⟨_,_,hp _,?_⟩;cases ho1:En a b<;>cases ho2:En c d<;>simp[AB,AD,AA 227 3,AA 227 4,AX 227]
 have hq:=(jr a b c d ho1 ho2).fsp;simp[BL]at hq;refine⟨_,⟨_,hq _⟩,?_⟩;simp
theorem Wn (a b c d:Int) (h1:En a b=true) (h2:En c d=true):PX 352 [BL a b,BL c d] [.bool (Hm a b c d)]:=by
 refine BU 352 ?_;have q1:=PE h1;have q2:=PE h2;have m1:=Ry (a:=a) (b:=d) (by omega) (by omega) (by omega) (by omega);have m2:=Ry (a:=c) (b:=b) (by omega) (by omega) (by omega) (by omega);have w1:IntKind.i64.wrap (a*d)=a*d:=AQ;have w2:IntKind.i64.wrap (c*b)=c*b:=AQ;simp[At 352,awp,AA 352 0,AA 352 1,AX 352,AV,BL,w1,w2,Hm]
theorem mz (m:Nat):∀(a b:Int),b.natAbs≤m→a.natAbs≤1099511627776→b.natAbs≤1099511627776→
  awp Tryz.prog An (.loop (lG 215 0)) (λe s=>e= .exit 0∧∃g:Int,g.natAbs=Int.gcd a b∧AF s.e 0= .v (.int .i64 g)) ⟨[(0,.v (.int .i64 a)),(1,.v (.int .i64 b))],[]⟩:=by
 induction m with
 |zero=>
  intro a b hb h1 h2;have:b=0:=by omega
  subst this;refine Aa ?_;simp only[Zw,BA 215 0,AA 215 1];simp[AJ]
 |succ m ih=>
  intro a b hb h1 h2;by_cases h0:b=0
  ·exact ih a b (by omega) h1 h2
  ·have e:(a.tmod b).natAbs=a.natAbs%b.natAbs:=Int.natAbs_tmod a b;have hlt:=Nat.mod_lt a.natAbs (show 0 <b.natAbs by omega);have hih:=ih b (a.tmod b) (by omega) h2 (by omega);have e2:Int.gcd b (a.tmod b)=Int.gcd a b:=by
    unfold Int.gcd;rw[e,Nat.gcd_comm,←Nat.gcd_rec,Nat.gcd_comm]
   rw[e2]at hih;refine A5 ?_ hih;simp only[Zw,BA 215 0,AA 215 1];have w1:IntKind.i64.wrap (a.tmod b)=a.tmod b:=AQ;simp[AB,AW,AA 215 2,h0]
theorem lC (a b:Int) (h1:a.natAbs≤1099511627776) (h2:b.natAbs≤1099511627776):PX 215 [.int .i64 a,.int .i64 b] [.int .i64 (Int.gcd a b)]:=by
 refine BU 215 ?_;simp only[At 215,AE,AU,AG,AA 215 0,AV];simp;refine AZ _ ?_ (mz b.natAbs a b (qM _) h1 h2);rintro e s ⟨rfl,g,hg,h⟩;have hgb:Int.gcd a b≤2199023255552:=by
  unfold Int.gcd;rcases tk a.natAbs with h3|h3
  ·rw[h3,Nat.gcd_zero_left];omega
  ·have:=Nat.gcd_le_left b.natAbs h3;omega
 by_cases h0:g <0
 ·have w:IntKind.i64.wrap (-g)= -g:=AQ;simp[AA 215 3,h,h0,AE,AG,AL,AD,AA 215 4,AX 215,w];omega
 ·simp[AA 215 3,h,h0,AE,AG,AL,AB,AD,AA 215 5,AX 215];omega
theorem Zl (n d:Int) (h1:i64 n) (h2:i64 d):PX 127 [BL n d] [.int .i64 (if En n d then 0 else 1)]:=by
 refine BU 127 ?_;simp only[At 127,AE,AG,AL,AA 127 0,AA 127 1,AV];unfold En;by_cases b1:d <1
 ·simp[BL,b1,AD,AA 127 2,AX 127];omega
 by_cases b2:1048576 <d
 ·simp[BL,b1,b2,AD,AA 127 2,AX 127];omega
 by_cases b3:1099511627776 <n
 ·simp[BL,b1,b2,b3,AD,AA 127 2,AX 127];omega
 by_cases b4:n < -1099511627776
 ·simp[BL,b1,b2,b3,b4,AD,AA 127 2,AX 127];omega
 simp[BL,b1,b2,b3,b4];refine⟨_,_,(lC n d (by omega) (by omega)).fsp _,?_⟩;by_cases b5:Int.gcd n d=1
 ·simp[b5,AB,AD,AA 127 3,AX 127];omega
 ·simp[b5,AD,AA 127 2,AX 127];omega
end
end Go.Va
