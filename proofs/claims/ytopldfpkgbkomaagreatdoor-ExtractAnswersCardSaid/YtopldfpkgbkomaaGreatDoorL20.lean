/- Laws that ExtractAnswers leans on, part 20. No condition of its own. -/
import Derived.Shelf.Spec.SlicesGrow
import Derived.Test.YtopldfpkgbkomaaGreatDoorL18
set_option linter.all false
set_option maxRecDepth 100000
set_option maxHeartbeats 4000000
noncomputable section
namespace Go.Va
open Go.Proofs
theorem lu (l:List Clm) (hl:∀c∈l,c.ok) (hn:l.length≤2^40) (hz:CD l=0) (i:Nat) (hi:i <l.length):PX 63 [.list (l.map Clm.V),.int .i64 i] [.int .i64 0]:=by
 refine BJ 63 ?_;have q:=(XU l hl hn).fsp;rw[hz]at q;have h1:¬(i:Int) <0:=by omega
 have h2:¬((l.length:Int)≤i):=by omega
 have h3:¬(l.length≤i):=by omega
 simp only[Ai 63,AE,AF,AK,AA 63 0,AA 63 1,AX];simp at q ⊢;refine⟨_,_,q _,?_⟩;simp[AD,AA 63 2,AA 63 4,h1,h2,AA 63 6,AB,AW 63]
def BG (f:F):List F:=if f.op=4 then f.kids else [f]
theorem aE (f:F):PX 141 [f.V] [.list ((BG f).map F.V)]:=by
 refine BJ 141 ?_;unfold BG;obtain⟨op,n,ins,kids⟩:=f;by_cases h:op=4<;>simp[Ai 141,awp,AA 141 0,AA 141 1,AA 141 2,AA 141 3,AW 141,AX,F.V_eq,h,F.op,F.kids]
mutual
def F.tops:F→List F| .mk op n ins kids=>if op=5 then F.topss kids else [.mk op n ins kids]
def F.topss:List F→List F|[]=>[]|k::ks=>k.tops++F.topss ks
end
theorem Nq:∀l,F.topss l=l.flatMap F.tops
 |[]=>rfl
 |k::ks=>by simp[F.topss,Nq ks]
theorem F.tops_eq (op n:Int) (ins:List Ivl) (kids:List F):(F.mk op n ins kids).tops=if op=5 then kids.flatMap F.tops else [.mk op n ins kids]:=by
 rw[F.tops,Nq]
theorem jY (f:F) (h:List Row):FX 139 [.v f.V] h [.func 242 [.ref h.length 0]] (h++[.cells f.cells]):=by
 refine Dh 139 ?_;obtain⟨op,n,ins,kids⟩:=f;simp[Ai 139,awp,AA 139 0,AA 139 1,AW 139,AQ,F.V_eq,F.cells,F.op,F.n,F.ins,F.kids,D.vs?,D.v?]
theorem gt (x:F) (c:Nat) (h:List Row) (a:Nat) (hc:h[c]?=some (.cells [.func 243 [.ref a 0,.ref c 0]])) (b:Bool) (h':List Row)
  (hp:FX 243 [.v x.V,.ref a 0,.ref c 0] (h++[.cells x.cells]) [.v (.bool b)] h'):FX 244 [.v x.V,.ref c 0] h [.v (.bool (!b))] h':=by
 refine Dh 244 ?_;have hc2:=AV [.cells x.cells] hc;obtain⟨xo,xn,xi,xk⟩:=x;simp only[F.cells,F.op,F.n,F.ins,F.kids,F.V_eq]at*;simp only[Ai 244,AE,AF,AA 244 0,AA 244 1,AQ];simp[hc2,D.vs?,D.v?];refine⟨_,_,hp,?_⟩;simp[AB,AW 244]
theorem kH (r:Nat) (a c:Nat) (kids:List F) (hk:∀k∈kids,∀X b X' J i j,a=X.length+i→c=X.length+j→RunY Tryz.prog Ah r (k.tops.map F.V) X b X'→J[i]?=some (.cells [.yld r])→J[j]?=some (.cells [.func 243 [.ref a 0,.ref c 0]])→
   ∃J',FX 243 [.v k.V,.ref a 0,.ref c 0] (X++J) [.v (.bool b)] (X'++(J++J'))):
  ∀(X:List Row) (b:Bool) (X':List Row) (J:List Row) (i j:Nat),a=X.length+i→c=X.length+j→RunY Tryz.prog Ah r ((kids.flatMap F.tops).map F.V) X b X'→J[i]?=some (.cells [.yld r])→J[j]?=some (.cells [.func 243 [.ref a 0,.ref c 0]])→
   ∃J' q,IdxR Tryz.prog Ah 244 [.ref c 0] (kids.map F.V) (X++J) q (X'++(J++J'))∧q.isSome= !b:=by
 induction kids with
 |nil=>
  rintro X b X' J i j ha hc ⟨rfl,rfl⟩ hi hj;exact⟨[],none,⟨rfl,by simp⟩,rfl⟩
 |cons k ks ih=>
  intro X b X' J i j ha hc hr hi hj;rw[oZ,oh]at hr;obtain⟨b1,X1,h1,h2⟩:=hr.app;have hl:=h1.len;obtain⟨J1,hp⟩:=hk k (by simp) X b1 X1 (J++[.cells k.cells]) i j ha hc h1 (AV _ hi) (AV _ hj);have hcc:(X++J)[c]?=some (.cells [.func 243 [.ref a 0,.ref c 0]]):=by rw[BI X J c j hc];exact hj
  rw[←oR]at hp;have hq:=gt k c (X++J) a hcc b1 _ hp;cases b1 with
  |true=>
   simp only[if_true]at h2;obtain⟨J2,q,h3,h4⟩:=ih (λx hx=>hk x (by simp[hx])) X1 b X' (J++[.cells k.cells]++J1) i j (by rw[hl];exact ha) (by rw[hl];exact hc) h2 (AV _ (AV _ hi)) (AV _ (AV _ hj));refine⟨[.cells k.cells]++J1++J2,q.map (· +1),⟨false,_,hq,?_⟩,by cases q<;>simpa using h4⟩
   simp only[oa,if_false];refine⟨q,?_,rfl⟩;simpa[oR]using h3
  |false=>
   simp only[oa,if_false]at h2;obtain⟨rfl,rfl⟩:=h2;refine⟨[.cells k.cells]++J1,some 0,⟨true,_,hq,?_⟩,rfl⟩;simp[oR]
theorem gu (r:Nat) (a c:Nat):∀f:F,f.ok→∀X b X' J i j,a=X.length+i→c=X.length+j→RunY Tryz.prog Ah r (f.tops.map F.V) X b X'→J[i]?=some (.cells [.yld r])→J[j]?=some (.cells [.func 243 [.ref a 0,.ref c 0]])→
   ∃J',FX 243 [.v f.V,.ref a 0,.ref c 0] (X++J) [.v (.bool b)] (X'++(J++J')):=by
 refine F.ind λop n ins kids ih hok=>?_;intro X b X' J i j ha hc hr hi hj;have hsz:=hok.2;rw[F.size_eq]at hsz;have hkl:=F.kids_len kids;rw[F.tops_eq]at hr;have ga:(X++(J++[.cells (F.mk op n ins kids).cells]))[a]?=some (.cells [.yld r]):=by rw[BI X _ a i ha];exact AV _ hi
 have gf:(X++(J++[.cells (F.mk op n ins kids).cells]))[X.length+J.length]?=some (.cells (F.mk op n ins kids).cells):=by rw[BI X _ _ J.length rfl];simp
 have hkids:∀x∈kids.map F.V,∃cs,x=V.agg cs∧cs.length=4:=by
  intro x hx;obtain⟨k,_,rfl⟩:=oP.1 hx;obtain⟨ko,kn,ki,kk⟩:=k;exact⟨_,F.V_eq ..,rfl⟩
 by_cases h5:op=5
 ·rw[if_pos h5]at hr;obtain⟨J3,q,hidx,hq⟩:=kH r a c kids (λk hk=>ih k hk (F.ok_kid hok hk)) X b X' (J++[.cells (F.mk op n ins kids).cells]) i j ha hc hr (AV _ hi) (AV _ hj);have hp:=Uu (.func 244 [.ref c 0]) 244 [.ref c 0] (FV.r 244 c 0 []) (kids.map F.V) (by simp;omega) hkids hidx;refine⟨[.cells (F.mk op n ins kids).cells]++J3,Dh 243 ?_⟩;simp only[F.cells,F.op,F.n,F.ins,F.kids,F.V_eq]at*;simp only[Ai 243,AE,AF,AK,AA 243 0,AA 243 1,AQ];simp[h5,AD];simp[h5]at gf;simp[D.vs?,D.v?,AA 243 3];simp[h5]at hp;rw[hq]at hp;refine⟨_,_,hp,?_⟩;simp[AB,AW 243]
 ·rw[if_neg h5]at hr;obtain⟨b1,X1,hl,hy,hr2⟩:=hr;obtain⟨J2,hy2⟩:=hy (J++[.cells (F.mk op n ins kids).cells]);have hbb:b=b1∧X'=X1:=by
   cases b1 with
   |true=>exact hr2
   |false=>exact hr2
  obtain⟨rfl,rfl⟩:=hbb;refine⟨[.cells (F.mk op n ins kids).cells]++J2,Dh 243 ?_⟩;simp only[F.cells,F.op,F.n,F.ins,F.kids,F.V_eq]at*;simp only[Ai 243,AE,AF,AK,AA 243 0,AA 243 1,AQ];simp[-Bool.exists_bool];simp[h5,AA 243 2,-Bool.exists_bool];simp[ga,-Bool.exists_bool];refine⟨_,_,hy2,?_⟩;simp[AB,AW 243]
theorem gv (f:F) (hok:f.ok) (r q:Nat) (X:List Row) (b:Bool) (X':List Row) (hr:RunY Tryz.prog Ah r (f.tops.map F.V) X b X') (hq:X[q]?=some (.cells f.cells)):
  ∃J,FX 242 [.yld r,.ref q 0] X [] (X'++J):=by
 obtain⟨J',hp⟩:=gu r X.length (X.length+1) f hok X b X' [.cells [.yld r],.cells [.func 243 [.ref X.length 0,.ref (X.length+1) 0]]] 0 1 rfl rfl hr rfl rfl;refine⟨[.cells [.yld r],.cells [.func 243 [.ref X.length 0,.ref (X.length+1) 0]]]++J',Dh 242 ?_⟩;obtain⟨op,n,ins,kids⟩:=f;have hq2:=AV [.cells [.yld r],.cells [.func 243 [.ref X.length 0,.ref (X.length+1) 0]]] hq;simp only[F.cells,F.op,F.n,F.ins,F.kids,F.V_eq]at*;simp only[Ai 242,AE,AF,AA 242 0,AA 242 1,AA 242 2,AA 242 3,AQ];simp[AO,D.v?]
 try simp at hq2
 simp[hq2];exact⟨⟨_,hp⟩,rfl⟩
theorem ew (l:List Int) (n:Int) (hn:l.length≤2^40):PX 337 [AH .i64 l,.int .i64 n] [.int .i64 (DX (l.findIdx? λx=>n==x))]:=by
 refine BJ 337 ?_;obtain⟨R,hR⟩:∃R,DX (l.findIdx? λx=>n==x)=R:=⟨_,rfl⟩;rw[hR];simp only[Ai 337,AE,AF,AM,AA 337 0,AA 337 1,AX];simp[AH];refine Al l.length (λk=>⟨[(0,.v (AH .i64 l)),(1,.v (.int .i64 n)),(7,.v (.int .i64 l.length)),(8,.v (.int .i64 k))],[]⟩) (λk=>DX (((l.drop k).findIdx? λx=>n==x).map (· +k))=R) (by simp[AH]) (by simpa using hR) ?_;intro k hk hI;simp only[Zw,A8 337 0,AA 337 2];simp[AH];by_cases h1:k <l.length
 ·obtain⟨x,hx⟩:∃x,l[k]?=some x:=⟨_,oI h1⟩;have hw:=Bb k;rw[EV hx,qE]at hI;rw[if_pos (by omega),AD];simp only[AA 337 3,AA 337 4];simp[hx];by_cases b1:n=x
  ·subst b1;simp[DX]at hI;simp[AA 337 5,AB,AW 337,hI]
  ·have b2:(n==x)=false:=by simp[b1]
   rw[b2]at hI;have hI':DX (((l.drop (k+1)).findIdx? λx=>n==x).map (· +(k+1)))=R:=by
    rw[←hI];cases (l.drop (k+1)).findIdx? λx=>n==x with
    |none=>rfl
    |some j=>simp[DX];omega
   simp[b1,AD,AA 337 6,hw,h1];exact hI'
 ·have hk2:k=l.length:=by omega
  subst hk2;simp[DX]at hI;rw[if_neg (by omega),AJ];simp[AB,AA 337 7,AW 337,hI]
theorem fJ (l:List Int) (n:Int) (hn:l.length≤2^40):PX 316 [AH .i64 l,.int .i64 n] [.bool (l.any λx=>n==x)]:=by
 refine BJ 316 ?_;have q:=(ew l n hn).fsp;have hge:=Qj (l.findIdx? λx=>n==x);rw[Cl]at hge;generalize DX (l.findIdx? λx=>n==x)=I at*;generalize (l.any λx=>n==x)=B at*;simp only[Ai 316,AE,AF,AA 316 0,AA 316 1,AX];simp[AH]at q ⊢;refine⟨_,_,q _,?_⟩;simp[AB,AW 316,CR];by_cases h0:0≤I
 ·simp[h0,hge.1 h0]
 ·cases B with
  |false=>simp[h0]
  |true=>exact absurd (hge.2 rfl) h0
def Bq (r:Rgt):List Int:=if r.force=0 then ((List.range r.claims.length).map λ(i:Nat)=>(i:Int)).filter λi=> !(r.bad.any λx=>i==x) else []
theorem Zn (r:Rgt) (h1:r.claims.length≤2^30) (h2:r.bad.length≤2^40):PX 273 [r.V] [AH .i64 (Bq r)]:=by
 refine BJ 273 ?_;unfold Bq;obtain⟨file,state,force,claims,dates,bad,owners,lics⟩:=r;simp only at h1 h2 ⊢;simp only[Zw,Ai 273,AA 273 0,AA 273 1,AA 273 2,AX];simp[Rgt.V,Rgt.cs,AH];by_cases hf:force=0
 ·subst hf;obtain⟨P,hP⟩:∃P:Int→Bool,(λi=> !(bad.any λx=>i==x))=P:=⟨_,rfl⟩;simp[AD,AA 273 4];refine AN claims.length (λk=>⟨[(1,.ref 0 0),(3,.own 3 1 ((((List.range k).map λ(i:Nat)=>(i:Int)).filter λi=> !(bad.any λx=>i==x)).map (.int .i64))),(11,.v (.int .i64 claims.length)),(12,.v (.int .i64 k))],
   [.cells ((Rgt.cs ⟨file,state,0,claims,dates,bad,owners,lics⟩).map .v)]⟩) (by simp[Rgt.cs,AH]) ?_
  intro k hk;simp only[Zw,A8 273 0,AA 273 5];simp[Rgt.cs,AH];by_cases hlt:k <claims.length
  ·have hw:=Bb k;have q:=(fJ bad k h2).fsp;rw[if_pos (by omega),AD];have hlen:(((List.range k).map λ(i:Nat)=>(i:Int)).filter λi=> !(bad.any λx=>i==x)).length≤k:=by
    have:=pG (λi=> !(bad.any λx=>i==x)) ((List.range k).map λ(i:Nat)=>(i:Int));simpa using this
   have hs:(((List.range (k+1)).map λ(i:Nat)=>(i:Int)).filter λi=> !(bad.any λx=>i==x))=(((List.range k).map λ(i:Nat)=>(i:Int)).filter λi=> !(bad.any λx=>i==x))++(if (bad.any λx=>(k:Int)==x) then [] else [(k:Int)]):=by
    rw[po,oh,pw]
    congr 1
    simp only[oV,pf,qt,rU];cases (bad.any λx=>(k:Int)==x)<;>rfl
   rw[hs];generalize (((List.range k).map λ(i:Nat)=>(i:Int)).filter λi=> !(bad.any λx=>i==x))=L at*;generalize (bad.any λx=>(k:Int)==x)=B at*;have hroom:AU (L.length+1) 8=true:=by simp[AU];omega
   simp[AH]at q;simp only[AA 273 6,AA 273 7];simp;refine⟨_,_,q _,?_⟩;cases B with
   |true=>simp[AD,AA 273 9,hw,hlt]
   |false=>simp[AA 273 8,hroom,AA 273 9,hw,hlt]
  ·have hk2:k=claims.length:=by omega
   subst hk2;rw[if_neg (by omega),AJ];simp[AB,AA 273 10,AW 273]
 ·simp[hf,AA 273 3,AB,AW 273]
section
def EJ:Nat→List V→List (V×V)
 |_,[]=>[]
 |k,v::vs=>(.int .i64 k,v)::EJ (k+1) vs
def EW (vs:List V):Row:= .map (EJ 0 vs) (List.range vs.length) vs.length
theorem Ok (v:V):∀(vs:List V) (k:Nat),EJ k (vs++[v])=EJ k vs++[(.int .i64 ((k+vs.length:Nat):Int),v)]
 |[],k=>rfl
 |x::vs,k=>by
  simp only[pl,EJ,Ok v vs (k+1),oj];rw[show k+1+vs.length=k+(vs.length+1) by omega]
theorem HL:∀(vs:List V) (k i:Nat) (v:V),vs[i]?=some v→(EJ k vs)[i]?=some (.int .i64 ((k+i:Nat):Int),v)
 |x::vs,k,0,v,h=>by
  simp at h;subst h;rfl
 |x::vs,k,i+1,v,h=>by
  simp only[EJ,qO];rw[HL vs (k+1) i v (by simpa using h),show k+1+i=k+(i+1) by omega]
theorem IH (st:Bool) (a:Int):∀(vs:List V) (k:Nat),Cv false [0] (.int .i64 a) (EJ k vs)=some (if (k:Int)≤a∧a <k+vs.length then some (a-k).toNat else none)
 |[],k=>by
  rw[if_neg (by simp)];rfl
 |x::vs,k=>by
  have hk:Bj false [0] (.int .i64 k)=true:=by simp[Bj,V.eqL,V.eq1,V.cells]
  simp only[EJ,Cv,hk,if_true,V.cells,V.eqL,V.eq1,rP,IH st a vs (k+1),oj];by_cases h:a=k
  ·subst h;simp;omega
  ·have h2:(a==(k:Int))=false:=by simp[h]
   simp only[h2];by_cases h3:((k+1:Nat):Int)≤a∧a <((k+1:Nat):Int)+vs.length
   ·rw[if_pos h3,if_pos (by omega)];simp;omega
   ·rw[if_neg h3,if_neg (by omega)];rfl
theorem OJ (vs:List V) (v:V):Row.map (EJ 0 vs++[(.int .i64 (vs.length:Nat),v)]) (List.range vs.length++[vs.length]) (vs.length+1)=EW (vs++[v]):=by
 unfold EW;rw[Ok,oL,rz,po,px]
def DQ (acc:List F) (c:Clm):F:=if c.refs=[] then c.body else .mk 4 0 [] [c.body,.mk 5 0 [] (c.refs.map λr=>(acc[r.toNat]?).getD c.body)]
def BA (l:List Clm):List F:=l.foldl (λacc c=>acc++[DQ acc c]) []
theorem C5 (l:List Clm):(BA l).length=l.length:=by
 have:∀(l:List Clm) (acc:List F),(l.foldl (λacc c=>acc++[DQ acc c]) acc).length=acc.length+l.length:=by
  intro l;induction l with
  |nil=>simp
  |cons c l ih=>intro acc;rw[qj,ih];simp;omega
 have h:=this l [];rw[qP,px]at h;exact h
theorem Ph (l:List Clm) (c:Clm):BA (l++[c])=BA l++[DQ (BA l) c]:=by
 unfold BA;rw[qd];rfl
variable {k:Nat}
theorem GC (l:List Clm) {c:Clm} (h:l[k]?=some c):BA (l.take (k+1))=BA (l.take k)++[DQ (BA (l.take k)) c]:=by
 rw[oW,h];exact Ph _ _
theorem Dk (l:List Clm):∀k,k≤l.length→BA (l.take k)=(BA l).take k:=by
 have:∀(l m:List Clm),(BA (l++m)).take l.length=BA l:=by
  intro l m;unfold BA;rw[qd];have:∀(m:List Clm) (acc:List F),∃t,m.foldl (λacc c=>acc++[DQ acc c]) acc=acc++t:=by
   intro m;induction m with
   |nil=>intro acc;exact⟨[],by simp⟩
   |cons c m ih=>
    intro acc;obtain⟨t,ht⟩:=ih (acc++[DQ acc c]);exact⟨[DQ acc c]++t,by rw[qj,ht];simp⟩
  obtain⟨t,ht⟩:=this m (l.foldl (λacc c=>acc++[DQ acc c]) []);rw[ht];have:=C5 l;unfold BA at this;rw[qp (by omega),o6 (by omega)]
 intro k hk;have h:=this (l.take k) (l.drop k);rw[pQ]at h;rw[←h,ol,qH hk]
def Ar (l:List Clm) (i:Int):F:=((BA l)[i.toNat]?).getD (.mk 0 0 [] [])
end
theorem bK (X:List Row) (mx:Nat) (acc:List F) (hmx:X[mx]?=some (EW (acc.map F.V))) (C Fr:Row) (refs:List Int) (hrefs:∀r∈refs,0≤r∧r <acc.length) (hn:refs.length≤8) (df:F) (v6 v19 v20 v21:V) (a7 a8:Nat) (Q:AExit→St→Prop)
  (hQ:∀e J,AG e 5= .mref mx→AG e 6= .v v6→AG e 7= .ref a7 0→AG e 8= .ref a8 0→AG e 9= .v (.bool true)→AG e 10= .ref (X.length+2) 0→AG e 19= .v v19→AG e 20= .v v20→AG e 21= .v v21→
   Q (.exit 2) ⟨e,X++(C::Fr:: .cells [.v (.int .i64 5),.v (.int .i64 0),.own 368 8 [],.own 84 4 ((refs.map λr=>(acc[r.toNat]?).getD df).map F.V)]::J)⟩):
  awp Tryz.prog Ah (.loop (lG 317 1)) Q ⟨[(5,.mref mx),(6,.v v6),(7,.ref a7 0),(8,.ref a8 0),(9,.v (.bool true)),(10,.ref (X.length+2) 0),(19,.v v19),(20,.v v20),(21,.v v21),(34,.v (AH .i64 refs)),(35,.v (.int .i64 refs.length)),(36,.v (.int .i64 (0:Nat)))],
   X++[C,Fr,.cells [.v (.int .i64 5),.v (.int .i64 0),.own 368 8 [],.own 84 4 []]]⟩:=by
 refine AY refs.length (λk s=>∃J,s=⟨[(5,.mref mx),(6,.v v6),(7,.ref a7 0),(8,.ref a8 0),(9,.v (.bool true)),(10,.ref (X.length+2) 0),(19,.v v19),(20,.v v20),(21,.v v21),(34,.v (AH .i64 refs)),(35,.v (.int .i64 refs.length)),(36,.v (.int .i64 k))],
   X++(C::Fr:: .cells [.v (.int .i64 5),.v (.int .i64 0),.own 368 8 [],.own 84 4 (((refs.take k).map λr=>(acc[r.toNat]?).getD df).map F.V)]::J)⟩) ⟨[],by simp⟩ ?_
 rintro k s hk ⟨J,rfl⟩;simp only[Zw,A8 317 1,AA 317 9];simp[AH];by_cases hkl:k <refs.length
 ·obtain⟨r,hr⟩:∃r,refs[k]?=some r:=⟨_,oI hkl⟩;have hrr:=hrefs r (oK hr);obtain⟨g,hg⟩:∃g,acc[r.toNat]?=some g:=⟨_,oI (by omega)⟩;have Br:∀Z,(X++Z)[mx]?=some (.map (EJ 0 (acc.map F.V)) (List.range (acc.map F.V).length) (acc.map F.V).length):=λZ=>AV Z hmx;have hf:Cv false [0] (.int .i64 r) (EJ 0 (acc.map F.V))=some (some r.toNat):=by
   rw[IH false,if_pos (by simp;omega)];simp
  have hgv:(EJ 0 (acc.map F.V))[r.toNat]?=some (.int .i64 r,g.V):=by
   have:=HL (acc.map F.V) 0 r.toNat g.V (by simp[hg]);rw[this];simp;omega
  have w1:=Bb k;have hroom:AU (k+1) 64=true:=by simp[AU];omega
  have hm:min k refs.length=k:=by omega
  have htk:(refs.map (F.V ∘ λr=>acc[r.toNat]?.getD df)).take (k+1)=(refs.map (F.V ∘ λr=>acc[r.toNat]?.getD df)).take k++[g.V]:=by rw[oW,oX,hr];simp[hg]
  rw[htk];obtain⟨go,gn,gi,gk⟩:=g;simp only[F.V_eq]at hgv;rw[if_pos (by omega),AD];simp only[AA 317 10,AA 317 11];simp[hr,Br,Bj,V.eqL,V.eq1,hf,hgv,Du];simp[AO,AA 317 12,hm,hroom,AA 317 13,w1,hkl,F.V_eq]
 ·have hk2:k=refs.length:=by omega
  subst hk2;rw[if_neg (by omega),AJ];change Q (.exit 2) _;rw[o6 (by simp),←qF];refine hQ _ J ?_ ?_ ?_ ?_ ?_ ?_ ?_ ?_ ?_<;>rfl
structure MeanOK (T:List Clm):Prop where
 len:T.length≤32
 ok:∀c∈T,Clm.ok c
 refs:∀c∈T,c.refs.length≤8
 low:∀(k:Nat) (c:Clm),T[k]?=some c→∀r∈c.refs,0≤r∧r <k
 mean:∀f∈BA T,f.ok∧BR f=0
def Tt:AC:=(.seq (.reg (oG 317 15) [5,6,8,19,20,21,67]) (.cond (.t 67 false) (.reg (oG 317 16) [5,19,20,21]) .skip))
def Wt:AC:=(.seq (.seq (.reg (oG 317 6) [5,6,7,8,9,19,20,21,31]) (.cond (.t 31 false) (.seq (.reg (oG 317 7) [5,6,7,8,9,10,19,20,21]) (.seq (.seq (.reg (oG 317 8) [5,6,7,8,9,10,19,20,21,34,35,36]) (.block 2 (.loop (lG 317 1)))) (.reg (oG 317 14) [5,6,8,9,19,20,21]))) .skip)) Tt)
theorem Rj:(lG 317 0)=(.seq (.reg (oG 317 3) [5,19,20,21,22]) (.seq (.cond (.t 22 false) .skip (.exit 0)) (.seq (.block 1 (.seq (.reg (oG 317 4) [5,6,7,19,20,21]) (.seq (.reg (oG 317 5) [5,6,7,8,9,19,20,21]) Wt))) (.reg (oG 317 17) [5,19,20,21])))):=(A8 317 0 :)
theorem bJ (h:List Row) (acc:List F) (f:F) (hf:f.ok∧BR f=0) (k:Nat) (hk:acc.length=k) (v19 v20:V) (J:List Row) (a8:Nat) (Q:AExit→St→Prop)
  (hQ:∀e J,AG e 5= .mref h.length→AG e 19= .v v19→AG e 20= .v v20→AG e 21= .v (.int .i64 k)→Q .normal ⟨e,h++EW ((acc++[f]).map F.V)::J⟩)
  (ds:List D) (hcp:ds.map D.copy=[.v (.int .i64 f.op),.v (.int .i64 f.n),.v (.list (f.ins.map Ivl.V)),.v (.list (f.kids.map F.V))]) (hJ:(h++EW (acc.map F.V)::J)[a8]?=some (.cells ds)):
  ∀e,AG e 5= .mref h.length→AG e 6= .v (.int .i64 k)→AG e 8= .ref a8 0→AG e 9= .v (.bool true)→AG e 19= .v v19→AG e 20= .v v20→AG e 21= .v (.int .i64 k)→
   awp Tryz.prog Ah Tt Q ⟨e,h++EW (acc.map F.V)::J⟩:=by
 intro e f5 f6 f8 f9 f19 f20 f21;have q:=(ZW f hf.1).fsp;rw[hf.2]at q;have hmf:Cv false [0] (.int .i64 k) (EJ 0 (acc.map F.V))=some none:=by
  rw[IH false,if_neg (by simp;omega)]
 have hput:=OJ (acc.map F.V) f.V;rw[←List.map_singleton (f:=F.V),←oh,oi,hk]at hput;have hmr:EW (acc.map F.V)= .map (EJ 0 (acc.map F.V)) (List.range k) k:=by unfold EW;rw[oi,hk]
 rw[hmr]at hJ ⊢;obtain⟨op,n,ins,kids⟩:=f;simp only[F.V_eq,F.op,F.n,F.ins,F.kids]at q hcp hput;have hdl:ds.length=4:=by have:=congrArg List.length hcp;simpa using this
 simp only[Tt,AE,AF,AK,AA 317 15];simp[f8,f9,hJ,hcp,hdl]at q ⊢;refine⟨_,_,q _,?_⟩;simp[AA 317 16,f5,f6,f8,f19,f20,f21,hJ,hcp,hdl,Bj,V.eqL,V.eq1,hmf];rw[hput];exact hQ _ _ rfl rfl rfl rfl
theorem kE (T:List Clm) (hT:MeanOK T) (h:List Row) (Q:AExit→St→Prop)
  (hQ:∀e J,AG e 5= .mref h.length→Q (.exit 0) ⟨e,h++EW ((BA T).map F.V)::J⟩):
  awp Tryz.prog Ah (.loop (lG 317 0)) Q ⟨[(5,.mref h.length),(19,.v (.list (T.map Clm.V))),(20,.v (.int .i64 T.length)),(21,.v (.int .i64 (0:Nat)))],h++[EW []]⟩:=by
 refine AY T.length (λk s=>∃J,s=⟨[(5,.mref h.length),(19,.v (.list (T.map Clm.V))),(20,.v (.int .i64 T.length)),(21,.v (.int .i64 k))],h++EW ((BA (T.take k)).map F.V)::J⟩) ⟨[],by simp[BA]⟩ ?_;rintro k s hk ⟨J,rfl⟩;rw[Rj];simp only[Zw,AA 317 3];simp;by_cases hkl:k <T.length
 ·obtain⟨c,hc⟩:∃c,T[k]?=some c:=⟨_,oI hkl⟩;have hTl:=hT.len;have hcm:=oK hc;have w1:=Bb k;have hmt:=GC T hc;have hal:(BA (T.take k)).length=k:=by rw[C5,ol];omega
  have hfk:DQ (BA (T.take k)) c∈BA T:=by
   have h1:DQ (BA (T.take k)) c∈BA (T.take (k+1)):=by rw[hmt];simp
   rw[Dk T (k+1) hkl]at h1;exact pH h1
  have hf:=hT.mean _ hfk;have hlow:=hT.low k c hc;have hrf:=hT.refs c hcm;rw[hmt];generalize BA (T.take k)=acc at*;obtain⟨refs,body⟩:=c;have hz:=λ(f:F) (hf:f.ok∧BR f=0) J a8 Q=>bJ h acc f hf k hal (.list (T.map Clm.V)) (.int .i64 T.length) J a8 Q;simp only at hlow hrf;rw[if_pos (by omega),AD];simp only[AA 317 4,AA 317 5];simp[hc,Clm.V,AO];unfold Wt;simp only[AE,AF,AK,AA 317 6];simp[AH];by_cases hr0:refs=[]
  ·subst hr0;have hme:DQ acc ⟨[],body⟩=body:=by simp[DQ]
   rw[hme]at hf ⊢;simp[AD];have Br:∀(m a b:Row),(h++m::(J++[a,b]))[h.length+J.length+2]?=some b:=by
    intro m a b;have:=List.getElem?_concat_length (l:=h++m::(J++[a])) (a:=b);simp only[oR,pl,oL,oj,qP,qz,←Nat.add_assoc]at this;exact this
   refine hz body hf _ (h.length+J.length+2) _ ?_ [.v (.int .i64 body.op),.v (.int .i64 body.n),.v (.list (body.ins.map Ivl.V)),.v (.list (body.kids.map F.V))] rfl (Br _ _ _) _ rfl rfl rfl rfl rfl rfl rfl;intro e J' g5 g19 g20 g21;simp[AA 317 17,g5,g19,g20,g21,w1,hkl]
  ·have h0:0 <refs.length:=by cases refs with|nil=>exact absurd rfl hr0|cons=>simp
   rw[if_pos h0];simp only[AA 317 7];simp;simp only[AM,AA 317 8];simp;have hgm:∀Z,(h++EW (acc.map F.V)::J++Z)[h.length]?=some (EW (acc.map F.V)):=λZ=>by simp
   have hi:=λC Fr v6 v19 v20 v21 a7 a8 Q=>bK (h++EW (acc.map F.V)::J) h.length acc (by simp) C Fr refs (λr hr=>by have:=hlow r hr;omega) hrf body v6 v19 v20 v21 a7 a8 Q;simp[AH]at hi;simp[AO];rw[show h.length+(J.length+2+1)=h.length+(J.length+1)+2 by omega];refine hi _ _ _ _ _ _ _ _ _ ?_;intro e J' g5 g6 g7 g8 g9 g10 g19 g20 g21;rw[show h.length+(J.length+1)+2=h.length+(J.length+2+1) by omega]at g10;simp only[AA 317 14];simp[g7,g10];simp[AO,g5,g6,g8,g9,g19,g20,g21];have Br:∀(m a b:Row) (Z:List Row),(h++m::(J++a::b::Z))[h.length+(J.length+1+1)]?=some b:=by
    intro m a b Z;simp
   refine hz (DQ acc ⟨refs,body⟩) hf _ (h.length+(J.length+1+1)) _ ?_ _ ?_ (Br _ _ _ _) _ rfl rfl rfl rfl rfl rfl rfl
   ·intro e J' g5 g19 g20 g21;simp[AA 317 17,g5,g19,g20,g21,w1,hkl]
   ·obtain⟨o,n,i,kk⟩:=body;simp[DQ,hr0,F.op,F.n,F.ins,F.kids,F.V_eq]
 ·have hk2:k=T.length:=by omega
  subst hk2;rw[if_neg (by omega),AJ];rw[od];exact hQ _ J rfl
theorem MeanOK.take {l:List Clm} (h:MeanOK l) (k:Nat) (hk:k≤l.length):MeanOK (l.take k) where
 len:=by have:=h.len;rw[ol];omega
 ok:=λc hc=>h.ok c (pH hc)
 refs:=λc hc=>h.refs c (pH hc)
 low:=λj c hj=>h.low j c (by rw[oz]at hj;split at hj;exact hj;cases hj)
 mean:=λf hf=>h.mean f (by rw[Dk l k hk]at hf;exact pH hf)
theorem fI (l:List Clm) (hT:MeanOK l) (i:Nat) (hi:i <l.length) (h:List Row) (hl:Low h):
  FX 317 [.v (.list (l.map Clm.V)),.v (.int .i64 i)] h [.mref h.length] (h++[EW ((BA (l.take (i+1))).map F.V)]):=by
 refine Ak (D4 317) rfl (by simp) (hl.app rfl) (by simp[D.lt]) ?_;have hloop:=kE (l.take (i+1)) (hT.take (i+1) hi) h;have hlen:=hT.len;have w1:=Bb i;have e1:((i:Int)+1).toNat=i+1:=by omega
 have hho:=TJ l;have htl:(l.take (i+1)).length=i+1:=by rw[ol];omega
 have hml:(List.take (i+1) (l.map Clm.V))=(l.take (i+1)).map Clm.V:=by rw[o8]
 have hmm:EW []= .map [] [] 0:=rfl;rw[hmm,htl]at hloop;simp only[Ai 317,AE,AF,AM,AA 317 0,AA 317 1,AA 317 2,AQ];simp[w1,e1,hho,show 0≤(i:Int)+1 by omega,show i+1≤l.length from hi];simp at hloop;refine hloop _ ?_;intro e J g5;simp[AA 317 18,g5,AB,AW 317]
theorem gI (l:List Clm) (i:Nat) (hi:i <l.length) (hT:MeanOK l) (hz:CD l=0):PX 274 [.list (l.map Clm.V),.int .i64 i] [(Ar l i).V,.int .i64 0]:=by
 refine E6 (args:=[_,_]) (rets:=[_,_]) ?_;refine Ak (D4 274) rfl (oN _) (by intro row h;cases h) (by simp[D.lt]) ?_;have hlen:=hT.len;have q1:=(lu l hT.ok (by omega) hz i hi).fsp;have q2:=fI l hT i hi [.cells [.v (.int .i64 0),.v (.int .i64 0),.own 368 8 [],.own 84 4 []]] (by intro row h;simp at h;subst h;rfl);have hin:¬(((i:Int) <0)∨(l.length:Int)≤i):=by omega
 obtain⟨f,hf⟩:∃f,(BA l)[i]?=some f:=⟨_,oI (by rw[C5];exact hi)⟩;have hf2:(BA (l.take (i+1)))[i]?=some f:=by
  rw[Dk l (i+1) hi,oz,if_pos (by omega)];exact hf
 have hfa:Ar l i=f:=by unfold Ar;simp[hf]
 have hn:((BA (l.take (i+1))).map F.V).length=i+1:=by rw[oi,C5,ol];omega
 have hm:Cv false [0] (.int .i64 i) (EJ 0 ((BA (l.take (i+1))).map F.V))=some (some i):=by
  rw[IH false,if_pos (by rw[hn];omega)];simp
 have hg:(EJ 0 ((BA (l.take (i+1))).map F.V))[i]?=some (.int .i64 i,f.V):=by
  have:=HL ((BA (l.take (i+1))).map F.V) 0 i f.V (by simp[hf2]);simpa using this
 rw[hfa];unfold EW at q2;generalize (BA (l.take (i+1))).map F.V=es at*;obtain⟨go,gn,gi,gk⟩:=f;simp only[F.V_eq]at*;simp only[Ai 274,AE,AF,AK,AA 274 0,AQ];simp;simp only[AA 274 1];simp;refine⟨_,_,q1 _,?_⟩;simp[AA 274 2,AA 274 4];simp at q2;refine⟨_,_,q2,?_⟩;simp[Bj,V.eqL,V.eq1,hm,hg,Du,AO,AD,AA 274 5,AA 274 7,AB,AW 274,D.one?]
section
def Bn (p:Int×Int):V:= .agg [.int .i64 p.1,.int .i64 p.2]
def Bt (I:Int→Int→Bool) (t:Th) (r:Rgt):List (Int×Int):=((Bq r).filter λi=>(Ar r.claims i).hold I t).map λi=>(r.file,i)
def A5 (I:Int→Int→Bool) (t:Th) (rs:List Rgt):List (Int×Int):=rs.flatMap (Bt I t)
theorem G7 {r:Rgt} {i:Int} (h:i∈Bq r):0≤i∧i <r.claims.length:=by
 unfold Bq at h;split at h
 ·obtain⟨k,hk,rfl⟩:=oP.1 (qC.1 h).1;have:=oy.1 hk;omega
 ·cases h
theorem Ez (r:Rgt):(Bq r).length≤r.claims.length:=by
 unfold Bq;split
 ·have:=pG (λi=> !(r.bad.any λx=>i==x)) ((List.range r.claims.length).map λ(i:Nat)=>(i:Int));simpa using this
 ·simp
structure Rgt.fine (nc:Int) (r:Rgt):Prop where
 bad:r.bad.length≤2^40
 mean:MeanOK r.claims
 z:CD r.claims=0
 cls:∀f∈BA r.claims,f.nodes.all (Gn nc)=true
theorem Rgt.fine.meanAt {nc:Int} {r:Rgt} (h:r.fine nc) {i:Int} (hi:0≤i∧i <r.claims.length):Ar r.claims i∈BA r.claims:=by
 unfold Go.Va.Ar;have hl:=C5 r.claims;have hx:(BA r.claims)[i.toNat]?=some (BA r.claims)[i.toNat]:=oI (by omega);rw[hx];exact pR _
variable {nc:Int}
theorem Rgt.fine.hld {r:Rgt} (h:r.fine nc) {i:Int} (hi:0≤i∧i <r.claims.length) {t:Th} (ht:Hb t=0) (hk:t.kinds nc=true):IL nc (Go.Va.Ar r.claims i) t=0:=by
 have hm:=h.meanAt hi;unfold IL;rw[(h.mean.mean _ hm).2,ht,h.cls _ hm,hk];rfl
def Lows (J:List Row):Prop:=∀row∈J,∀n,Row.low n row=true
theorem Lows.nil:Lows []:=λrow h=>by cases h
variable {row:Row} {J:List Row}
theorem Lows.app (h:Lows J) (hr:∀n,row.low n=true):Lows (J++[row]):=by
 intro x hx n;rcases oc.1 hx with hx|hx
 ·exact h x hx n
 ·rw[oS.1 hx];exact hr n
variable {h:List Row}
theorem Low.lows (hl:Low h) (hJ:Lows J):Low (h++J):=hl.apps λrow hr=>hJ row hr _
variable {ps:List V}
theorem bZ {bs:List Bool} (hps:ps.length≤64) (hbs:bs.length=4096) (h:List Row) (x:Nat) (hx:h[x]?=some (Dn ps bs)) (hl:Low h) (t:Th) (ht:t.ok) (hte:Hb t=0) (htk:t.kinds ps.length=true)
  (r:Rgt) (hr:r.fine ps.length) (KN:∀i:Int,0≤i→i <r.claims.length→PX 274 [.list (r.claims.map Clm.V),.int .i64 i] [(Ar r.claims i).V,.int .i64 0])
  (O:List (Int×Int)) (hO:O.length≤2^20) (S:List Int) (hS:∀i∈S,0≤i∧i <r.claims.length) (hSn:S.length≤2^20) (v24 v25 v26:V) (J:List Row) (hJ:Lows J) (a11:Nat)
  (ha11:(h++ .cells t.cells::J)[a11]?=some (.cells (r.cs.map .v))) (Q:AExit→St→Prop)
  (hQ:∀e J',Lows J'→AG e 0= .ref x 0→AG e 5= .ref h.length 0→AG e 9= .own 76 2 ((O++(S.filter λi=>(Ar r.claims i).hold (CO ps.length bs) t).map λi=>(r.file,i)).map Bn)→AG e 24= .v v24→AG e 25= .v v25→AG e 26= .v v26→Q (.exit 2) ⟨e,h++ .cells t.cells::J'⟩):
  awp Tryz.prog Ah (.loop (lG 185 1)) Q ⟨[(0,.ref x 0),(5,.ref h.length 0),(9,.own 76 2 (O.map Bn)),(11,.ref a11 0),(24,.v v24),(25,.v v25),(26,.v v26),(31,.v (AH .i64 S)),(32,.v (.int .i64 S.length)),(33,.v (.int .i64 (0:Nat)))],h++ .cells t.cells::J⟩:=by
 refine AY S.length (λk s=>∃J',Lows J'∧s=⟨[(0,.ref x 0),(5,.ref h.length 0),(9,.own 76 2 ((O++((S.take k).filter λi=>(Ar r.claims i).hold (CO ps.length bs) t).map λi=>(r.file,i)).map Bn)),(11,.ref a11 0),(24,.v v24),(25,.v v25),(26,.v v26),(31,.v (AH .i64 S)),(32,.v (.int .i64 S.length)),(33,.v (.int .i64 k))],
   h++ .cells t.cells::(J++J')⟩) ⟨[],Lows.nil,by simp⟩ ?_
 rintro k s hk ⟨J',hJ',rfl⟩;simp only[Zw,A8 185 1,AA 185 11];simp[AH];by_cases hkl:k <S.length
 ·obtain⟨i,hi⟩:∃i,S[k]?=some i:=⟨_,oI hkl⟩;have him:=hS i (oK hi);have w1:=Bb k;have htk2:S.take (k+1)=S.take k++[i]:=by rw[oW,hi];rfl
  have Br:∀Z,(h++ .cells t.cells::(J++Z))[a11]?=some (.cells (r.cs.map .v)):=λZ=>by have:=AV Z ha11;simpa using this
  have q1:=(KN i him.1 him.2).fsp;have q2:=λ(Z:List Row) (hZ:Lows Z)=>gg hps hbs (Ar r.claims i) (hr.mean.mean _ (hr.meanAt him)).1 t ht (h++ .cells t.cells::(J++Z)) x (AV _ hx) (hl.lows (by
   intro row hrow n;rcases oO.1 hrow with rfl|hrow
   ·exact G5 n t
   ·rcases oc.1 hrow with hrow|hrow
    ·exact hJ row hrow n
    ·exact hZ row hrow n))
  simp only[hr.hld him hte htk,decide_true,pB]at q2;have hlen:((S.take k).filter λi=>(Ar r.claims i).hold (CO ps.length bs) t).length≤k:=by
   have:=pG (λi=>(Ar r.claims i).hold (CO ps.length bs) t) (S.take k);rw[ol]at this;omega
  have hfs:((S.take (k+1)).filter λi=>(Ar r.claims i).hold (CO ps.length bs) t)=((S.take k).filter λi=>(Ar r.claims i).hold (CO ps.length bs) t)++(if (Ar r.claims i).hold (CO ps.length bs) t then [i] else []):=by
   rw[htk2,pw,qt,rU]
  rw[hfs];generalize ((S.take k).filter λi=>(Ar r.claims i).hold (CO ps.length bs) t)=L at*;generalize (Ar r.claims i).hold (CO ps.length bs) t=B at*;generalize Ar r.claims i=f at*;have hroom:AU (O.length+L.length+1) 16=true:=by simp[AU];omega
  have hlows:∀n,Row.low n (.cells f.cells)=true:=λn=>LI n f;obtain⟨fo,fn,fi,fk⟩:=f;obtain⟨cs,vs,pa⟩:=t;obtain⟨file,state,force,claims,dates,bad,owners,lics⟩:=r;simp only[F.cells,F.op,F.n,F.ins,F.kids,F.V_eq,Th.cells,Th.cs,Th.vs,Th.ps,Th.V_eq,Rgt.cs,AH]at*;simp at q1 Br;have q2':=q2 _ (hJ'.app hlows)
  try simp at q2'
  rw[if_pos (by omega),AD];simp only[AA 185 12];simp[hi];simp only[AA 185 13];simp[Br];refine⟨_,_,q1 _,?_⟩;simp[AO,AA 185 14,AD];simp only[AA 185 16];simp;refine⟨_,_,q2',?_⟩;simp[AA 185 17,AA 185 19];cases B with
  |false=>
   simp[AA 185 21,w1,hkl];exact hJ'.app hlows
  |true=>
   simp[AA 185 20,Br,hroom,AA 185 21,w1,hkl,Bn,AO];exact hJ'.app hlows
 ·have hk2:k=S.length:=by omega
  subst hk2;rw[if_neg (by omega),AJ];have hJJ:Lows (J++J'):=by
   intro row hrow n;rcases oc.1 hrow with hrow|hrow
   ·exact hJ row hrow n
   ·exact hJ' row hrow n
  rw[od];exact hQ _ _ hJJ rfl rfl (by simp) rfl rfl rfl
end
section
def Tv:AC:=(.seq (.reg (oG 185 10) [0,5,9,11,24,25,26,31,32,33]) (.block 2 (.loop (lG 185 1))))
theorem Mi:(lG 185 0)=(.seq (.reg (oG 185 8) [0,5,9,24,25,26,27]) (.seq (.cond (.t 27 false) .skip (.exit 0)) (.seq (.block 1 (.seq (.reg (oG 185 9) [0,5,9,11,24,25,26]) Tv)) (.reg (oG 185 22) [0,5,9,24,25,26])))):=(A8 185 0 :)
variable {ps:List V}
theorem kO {bs:List Bool} (hps:ps.length≤64) (hbs:bs.length=4096) (h:List Row) (x:Nat) (hx:h[x]?=some (Dn ps bs)) (hl:Low h) (t:Th) (ht:t.ok) (hte:Hb t=0) (htk:t.kinds ps.length=true)
  (rs:List Rgt) (hr:∀r∈rs,r.fine ps.length) (hrl:rs.length≤2^10) (hrc:∀r∈rs,r.claims.length≤2^8)
  (KN:∀r∈rs,∀i:Int,0≤i→i <r.claims.length→PX 274 [.list (r.claims.map Clm.V),.int .i64 i] [(Ar r.claims i).V,.int .i64 0]) (Q:AExit→St→Prop)
  (hQ:∀e J',AG e 9= .own 76 2 ((A5 (CO ps.length bs) t rs).map Bn)→Q (.exit 0) ⟨e,h++ .cells t.cells::J'⟩):
  awp Tryz.prog Ah (.loop (lG 185 0)) Q ⟨[(0,.ref x 0),(5,.ref h.length 0),(9,.own 76 2 []),(24,.v (.list (rs.map Rgt.V))),(25,.v (.int .i64 rs.length)),(26,.v (.int .i64 (0:Nat)))],h++[.cells t.cells]⟩:=by
 refine AY rs.length (λk s=>∃J',Lows J'∧s=⟨[(0,.ref x 0),(5,.ref h.length 0),(9,.own 76 2 ((A5 (CO ps.length bs) t (rs.take k)).map Bn)),(24,.v (.list (rs.map Rgt.V))),(25,.v (.int .i64 rs.length)),(26,.v (.int .i64 k))],
   h++ .cells t.cells::J'⟩) ⟨[],Lows.nil,by simp[A5]⟩ ?_
 rintro k s hk ⟨J',hJ',rfl⟩;rw[Mi];simp only[Zw,AA 185 8];simp;by_cases hkl:k <rs.length
 ·obtain⟨r,hri⟩:∃r,rs[k]?=some r:=⟨_,oI hkl⟩;have hrm:=oK hri;have hrr:=hr r hrm;have w1:=Bb k;have htk2:rs.take (k+1)=rs.take k++[r]:=by rw[oW,hri];rfl
  have hfs:A5 (CO ps.length bs) t (rs.take (k+1))=A5 (CO ps.length bs) t (rs.take k)++Bt (CO ps.length bs) t r:=by
   rw[htk2];unfold A5;rw[pm];simp
  have hOl:(A5 (CO ps.length bs) t (rs.take k)).length≤2^20:=by
   have:∀(l:List Rgt),(∀r∈l,r.claims.length≤2^8)→(A5 (CO ps.length bs) t l).length≤2^8*l.length:=by
    intro l;induction l with
    |nil=>intro _;simp[A5]
    |cons y l ih=>
     intro hy;have h1:=ih λz hz=>hy z (by simp[hz]);have h2:=hy y (by simp);have h3:=Ez y;have h4:(Bt (CO ps.length bs) t y).length≤(Bq y).length:=by
      unfold Bt;rw[oi];exact pG _ _
     unfold A5 at h1 ⊢;rw[oZ,oL,oj,rN];omega
   have:=this (rs.take k) λy hy=>hrc y (pH hy);rw[ol]at this;have:2^8*min k rs.length≤2^8*2^10:=rm _ (by omega);omega
  have hc8:=hrc r hrm;have q1:=(Zn r (by omega) hrr.bad).fsp;have hlive:=Ez r;have hloop:=λv24 v25 v26 J hJ a11 ha11 Q=>bZ hps hbs h x hx hl t ht hte htk r hrr (KN r hrm) _ hOl (Bq r) (λi hi=>G7 hi) (by omega) v24 v25 v26 J hJ a11 ha11 Q;rw[hfs];unfold Bt;generalize A5 (CO ps.length bs) t (rs.take k)=O at*;rw[if_pos (by omega),AD];simp only[AA 185 9];have hcsl:∀n,Row.low n (.cells (r.cs.map .v))=true:=λn=>by simp only[Row.low];exact J7 _
  have hlp:=λQ=>hloop (.list (rs.map Rgt.V)) (.int .i64 rs.length) (.int .i64 k) (J'++[.cells (r.cs.map .v)]) (hJ'.app hcsl) (h.length+(J'.length+1)) (by
   simp) Q
  generalize hLR:Bq r=LR at*;obtain⟨file,state,force,claims,dates,bad,owners,lics⟩:=r;simp only[Rgt.V,Rgt.cs,AH]at*;simp at q1;simp[hri,Rgt.V,Rgt.cs,AH,AO];unfold Tv;simp only[AE,AF,AM,AA 185 10];simp;refine⟨_,_,q1 _,?_⟩;simp;simp at hlp;refine hlp _ ?_;intro e J2 hJ2 g0 g5 g9 g24 g25 g26;simp[AA 185 22,g0,g5,g9,g24,g25,g26,w1,hkl];exact hJ2
 ·have hk2:k=rs.length:=by omega
  subst hk2;rw[if_neg (by omega),AJ,od];exact hQ _ _ rfl
theorem iu {bs:List Bool} (hps:ps.length≤64) (hbs:bs.length=4096) (h:List Row) (x:Nat) (hx:h[x]?=some (Dn ps bs)) (hl:Low h) (t:Th) (ht:t.ok) (hte:Hb t=0) (htk:t.kinds ps.length=true)
  (rs:List Rgt) (hr:∀r∈rs,r.fine ps.length) (hrl:rs.length≤2^10) (hrc:∀r∈rs,r.claims.length≤2^8)
  (KN:∀r∈rs,∀i:Int,0≤i→i <r.claims.length→PX 274 [.list (r.claims.map Clm.V),.int .i64 i] [(Ar r.claims i).V,.int .i64 0]):
  FX 185 [.ref x 0,.v (.list (rs.map Rgt.V)),.v t.V] h [.own 76 2 ((A5 (CO ps.length bs) t rs).map Bn),.v (.int .i64 0)] h:=by
 refine Ak (D4 185) rfl (oN _) hl (by simp[D.lt]) ?_;have q67:=(dN t ht).fsp;rw[hte]at q67;have hloop:=λQ=>kO hps hbs h x hx hl t ht hte htk rs hr hrl hrc KN Q;have hth:t.V= .agg [AH .i64 t.cs,.list (t.vs.map Val.V),.list (t.ps.map Th.V)]:=by obtain⟨a,b,c⟩:=t;exact Th.V_eq ..
 rw[hth]at q67 ⊢;simp only[Th.cells]at hloop;simp[AH]at q67 hloop;simp only[Zw,Ai 185,AA 185 0,AA 185 1,AQ];simp[AH,AD,AA 185 3];refine⟨_,_,q67 _,?_⟩;simp[AA 185 4,AA 185 6,AA 185 7];refine hloop _ ?_;intro e J g9;simp[AA 185 23,g9,AB,AW 185]
end
section
theorem gG (r:Rgt) (f i:Int) (h:List Row) (q:Nat) (hq:h[q]?=some (.cells [.v (.int .i64 f),.v (.int .i64 i)])) (hl:Low h):FX 276 [.v r.V,.ref q 0] h [.v (.bool (r.file==f))] h:=by
 refine Ak (D4 276) rfl (oN _) hl (by simp[D.lt]) ?_;have hq':=λZ=>AV Z hq;simp[Ai 276,awp,AA 276 0,AA 276 1,AW 276,AQ,Rgt.V,Rgt.cs,hq']
theorem gF (d:Dat) (f i j day:Int) (ds:List D) (h:List Row) (a b c:Nat) (ha:h[a]?=some (.cells [.v (.int .i64 f),.v (.int .i64 i)])) (hb:h[b]?=some (.cells [.v (.int .i64 j)])) (hc:h[c]?=some (.cells ds)) (hd:ds[3]?=some (.v (.int .i64 day))) (hl:Low h):
  FX 278 [.v d.V,.ref a 0,.ref b 0,.ref c 0] h [.v (.bool (((d.cl==i)&&(d.ix==j))&&decide (d.day <day)))] h:=by
 refine Ak (D4 278) rfl (oN _) hl (by simp[D.lt]) ?_;have ha':=λZ=>AV Z ha;have hb':=λZ=>AV Z hb;have hc':=λZ=>AV Z hc;have hlen:3 <ds.length:=(oM.1 hd).1;have hlen4:4≤ds.length:=hlen;have hd2:ds[3]'hlen= .v (.int .i64 day):=(oM.1 hd).2;cases h1:(d.cl==i)&&(d.ix==j)with
 |false=>simp[Ai 278,awp,AA 278 0,AA 278 1,AW 278,AQ,Dat.V,ha',hb',h1,V.eqL,V.eq1,AO]
 |true=>simp[Ai 278,awp,AA 278 0,AA 278 1,AW 278,AQ,Dat.V,ha',hb',hc',h1,V.eqL,V.eq1,D.part,hd2,hlen,hlen4,AO]
def mkA (a b:F):F:= .mk 4 0 [] (BG a++BG b)
def ER (acc:List (List F)) (c:Clm):List F:=if c.refs=[] then c.body.tops else c.refs.flatMap λr=>((acc[r.toNat]?).getD []).flatMap λa=>c.body.tops.map λb=>mkA a b
def CA (l:List Clm):List (List F):=l.foldl (λacc c=>acc++[ER acc c]) []
def Bm (l:List Clm) (i:Int):List F:=((CA l)[i.toNat]?).getD []
def Rv (nc:Int) (al:List F):Prop:=al.length≤64∧∀f∈al,f.ok∧BR f=0∧f.nodes.all (Gn nc)=true
variable {nc:Int}
theorem b8 {al:List F} (h:Rv nc al) {f:F} (hf:f∈al) {t:Th} (ht:Hb t=0) (hk:t.kinds nc=true):IL nc f t=0:=by
 obtain⟨_,h2,h3⟩:=h.2 f hf;unfold IL;rw[h2,ht,h3,hk];rfl
def Pz (r:Rgt) (i j day:Int):Bool:=r.dates.any λd=>((d.cl==i)&&(d.ix==j))&&decide (d.day <day)
def HT (I:Int→Int→Bool) (t:Th) (r:Rgt) (i day:Int):Nat→List F→Bool
 |_,[]=>false
 |k,a::al=>(a.hold I t&&Pz r i k day)||HT I t r i day (k+1) al
def T7 (I:Int→Int→Bool) (t:Th) (r:Rgt) (i day:Int):Bool:=HT I t r i day 0 (Bm r.claims i)
theorem Lf (I:Int→Int→Bool) (t:Th) (r:Rgt) (i day:Int) (b:F):∀(al:List F) (k:Nat),HT I t r i day k (al++[b])=(HT I t r i day k al||(b.hold I t&&Pz r i ((k+al.length:Nat):Int) day))
 |[],k=>by simp[HT]
 |a::al,k=>by
  simp only[pl,HT,Lf I t r i day b al (k+1),oj];rw[show k+1+al.length=k+(al.length+1) by omega,Bool.or_assoc]
def Wu:AC:=(.seq (.seq (.reg (oG 186 11) [0,4,5,9,12,13,15,16,37,38,39,53]) (.cond (.t 53 false) (.seq (.reg (oG 186 12) [6,7]) .ret) .skip)) (.reg (oG 186 13) [0,4,5,9,12,37,38,39]))
theorem Rk:(lG 186 0)=(.seq (.reg (oG 186 8) [0,4,5,9,12,37,38,39,40]) (.seq (.cond (.t 40 false) .skip (.exit 0)) (.seq (.block 1 (.seq (.reg (oG 186 9) [0,4,5,9,12,13,14,37,38,39]) (.seq (.reg (oG 186 10) [0,4,5,9,12,13,15,16,37,38,39]) Wu))) (.reg (oG 186 14) [0,4,5,9,12,37,38,39])))):=(A8 186 0 :)
variable {ps:List V}
theorem kN {bs:List Bool} (hps:ps.length≤64) (hbs:bs.length=4096) (H:List Row) (x:Nat) (hx:H[x]?=some (Dn ps bs)) (hl:Low H) (t:Th) (ht:t.ok) (hte:Hb t=0) (htk:t.kinds ps.length=true)
  (r:Rgt) (hrd:r.dates.length <2^40) (f i day:Int) (a4 a5 a9:Nat) (d0 d1 d2 d7 d8 d9 d10 d11 d12:D) (h4:H[a4]?=some (.cells [d0,d1,d2,.v (.int .i64 day),.v (AH .i64 t.cs),.v (.list (t.vs.map Val.V)),.v (.list (t.ps.map Th.V)),d7,d8,d9,d10,d11,d12]))
  (h5:H[a5]?=some (.cells [.v (.int .i64 f),.v (.int .i64 i)])) (h9:H[a9]?=some (.cells (r.cs.map .v))) (al:List F) (has:Rv ps.length al) (Q:AExit→St→Prop)
  (hQ:∀e J,AG e 12= .v (.bool (HT (CO ps.length bs) t r i day 0 al))→Q (.exit 0) ⟨e,H++J⟩):
  awp Tryz.prog Ah (.loop (lG 186 0)) Q ⟨[(0,.ref x 0),(4,.ref a4 0),(5,.ref a5 0),(9,.ref a9 0),(12,.v (.bool false)),(37,.v (.list (al.map F.V))),(38,.v (.int .i64 al.length)),(39,.v (.int .i64 (0:Nat)))],H⟩:=by
 refine AY al.length (λk s=>∃J,Lows J∧s=⟨[(0,.ref x 0),(4,.ref a4 0),(5,.ref a5 0),(9,.ref a9 0),(12,.v (.bool (HT (CO ps.length bs) t r i day 0 (al.take k)))),(37,.v (.list (al.map F.V))),(38,.v (.int .i64 al.length)),(39,.v (.int .i64 k))],H++J⟩)
  ⟨[],Lows.nil,by simp[HT]⟩ ?_
 rintro k s hk ⟨J,hJ,rfl⟩;rw[Rk];simp only[Zw,AA 186 8];simp;by_cases hkl:k <al.length
 ·obtain⟨a,ha⟩:∃a,al[k]?=some a:=⟨_,oI hkl⟩;have ham:=oK ha;have hlen:=has.1;have w1:=Bb k;have htk2:al.take (k+1)=al.take k++[a]:=by rw[oW,ha];rfl
  have hbt:=Lf (CO ps.length bs) t r i day a (al.take k) 0;rw[←htk2,ol,qH (by omega),px]at hbt;rw[hbt];have hx':=λZ=>AV Z hx;have h4':=λZ=>AV Z h4;have h5':=λZ=>AV Z h5;have h9':=λZ=>AV Z h9;have hlw:∀n,Row.low n (.cells [.v (.int .i64 k)])=true:=λn=>by simp[Row.low,D.lts,D.lt]
  have hlf:∀n,Row.low n (.cells a.cells)=true:=λn=>LI n a;have hJ2:Lows (J++[.cells [.v (.int .i64 k)],.cells a.cells]):=by
   have:=(hJ.app hlw).app hlf;simpa using this
  have q1:=gg hps hbs a (has.2 a ham).1 t ht (H++(J++[.cells [.v (.int .i64 k)],.cells a.cells])) x (hx' _) (hl.lows hJ2);rw[b8 has ham hte htk]at q1;simp only[decide_true,pB]at q1;have hH:Low (H++(J++[.cells [.v (.int .i64 k)],.cells a.cells])):=hl.lows hJ2;have hidx:IdxR Tryz.prog Ah 278 [.ref a5 0,.ref (H.length+J.length) 0,.ref a4 0] (r.dates.map Dat.V) (H++(J++[.cells [.v (.int .i64 k)],.cells a.cells])) (r.dates.findIdx? λd=>((d.cl==i)&&(d.ix==(k:Int)))&&decide (d.day <day)) (H++(J++[.cells [.v (.int .i64 k)],.cells a.cells])):=
   IdxR.map λd _=>gF d f i k day _ _ a5 (H.length+J.length) a4 (h5' _) (by rw[BI H _ _ J.length rfl];simp) (h4' _) rfl hH
  have hcf:=Zl (.func 278 [.ref a5 0,.ref (H.length+J.length) 0,.ref a4 0]) 278 _ (FV.r 278 a5 0 [.ref (H.length+J.length) 0,.ref a4 0]) (r.dates.map Dat.V) (by simpa using hrd) (by
   intro x hx;obtain⟨y,_,rfl⟩:=oP.1 hx;exact⟨_,rfl,rfl⟩) hidx
  rw[Cl]at hcf;have hdb:(r.dates.any λd=>((d.cl==i)&&(d.ix==(k:Int)))&&decide (d.day <day))=Pz r i k day:=rfl;rw[hdb]at hcf;generalize Pz r i k day=B at*;generalize HT (CO ps.length bs) t r i day 0 (al.take k)=A at*;generalize a.hold (CO ps.length bs) t=T at*;obtain⟨fo,fn,fi,fk⟩:=a;obtain⟨cs,vs,pa⟩:=t;obtain⟨file,state,force,claims,dates,bad,owners,lics⟩:=r;simp only[F.cells,F.op,F.n,F.ins,F.kids,F.V_eq,Th.cs,Th.vs,Th.ps,Th.V_eq,Rgt.cs,AH]at*;simp at q1 hcf h4' h5' h9';rw[if_pos (by omega),AD];simp only[AA 186 9];simp[ha,F.V_eq,AO];simp only[AA 186 10];simp[h4'];refine⟨_,_,q1,?_⟩;unfold Wu;simp[AE,AF,AK,AA 186 11,AD];simp only[AA 186 13];simp;cases A with
  |true=>
   simp[AA 186 14,w1,hkl];exact hJ2
  |false=>
   cases T with
   |false=>
    simp[AA 186 14,w1,hkl];exact hJ2
   |true=>
    simp[h9'];refine⟨_,_,hcf,?_⟩;simp[AA 186 14,w1,hkl];exact hJ2
 ·have hk2:k=al.length:=by omega
  subst hk2;rw[if_neg (by omega),AJ,od];exact hQ _ _ rfl
end
open Go.Proofs Go.Shelf
def ZO:Ren:=⟨λ|4=>245|n=>n,λ|22=>77|25=>84|n=>n,λn=>n⟩
theorem ae:Lays8.n4 Tryz.prog ZO where
 mixed:=by kernel_rfl
 f4:=⟨Tryz.f245.name,by kernel_rfl,Tryz.func245.trans (congrArg some (by kernel_rfl))⟩
 t0:=Tryz.underlying0
 a0:=Tryz.isAgg0
 z0:=Tryz.sizeOf0
 v0:=Tryz.zeroValue0
 t3:=Tryz.underlying3
 a3:=Tryz.isAgg3
 z3:=Tryz.sizeOf3
 v3:=Tryz.zeroValue3
 t4:=Tryz.underlying4
 a4:=Tryz.isAgg4
 z4:=Tryz.sizeOf4
 v4:=Tryz.zeroValue4
 t9:=Tryz.underlying9
 a9:=Tryz.isAgg9
 z9:=Tryz.sizeOf9
 v9:=Tryz.zeroValue9
 t20:=Tryz.underlying20
 a20:=Tryz.isAgg20
 z20:=Tryz.sizeOf20
 v20:=Tryz.zeroValue20
 t22:=Tryz.underlying77
 a22:=Tryz.isAgg77
 z22:=Tryz.sizeOf77
 v22:=Tryz.zeroValue77
theorem Xy:∃i z,Tryz.prog.info? 84=some i∧i.zero=some z∧i.size=4∧z.cells.size=4∧i.bytes≤64:=by
 have hk:(match Tryz.prog.info? 84 with|some i=>(match i.zero with|some z=>i.size==4&&z.cells.size==4&&decide (i.bytes≤64)|none=>false)|none=>false)=true:=by kernel_rfl
 cases hi:Tryz.prog.info? 84 with
 |none=>rw[hi]at hk;cases hk
 |some i=>
  rw[hi]at hk;simp only at hk;cases hz:i.zero with
  |none=>rw[hz]at hk;cases hk
  |some z=>
   rw[hz]at hk;simp only[oJ,beq_iff_eq,decide_eq_true_eq]at hk;exact⟨i,z,rfl,hz,hk.1.1,hk.1.2,hk.2⟩
theorem gp (n:Nat) (hn:n≤2^30) (h:List Row):FX 245 [.nil 84 4,.v (.int .i64 n)] h [.own 84 4 []] h:=by
 refine⟨by kernel_rfl,λg w μ us O hinv hgl hall htame=>?_⟩;obtain⟨hlen,Br⟩:=hall;obtain⟨u,v,rfl⟩:∃u v,us=[u,v]:=by
  match us,hlen with
  |[u,v],_=>exact⟨u,v,rfl⟩
 have hu:RepE g w μ (.nil 84 4) u:=Br 0 _ u rfl rfl;have hv:RepV g (.int .i64 n) v:=Br 1 (.v (.int .i64 n)) v rfl rfl;obtain⟨a,rfl,ha⟩:=hu;cases hv;rcases ra n with rfl|hpos
 ·have c:=Any8.slices_Grow_room ae a 0 0 0 w (by omega) (by omega) (by omega) (by omega);refine Calls.mono c ?_;rintro e w' ⟨rfl,rfl⟩;have hc:Chg (λ_=>False) g w' g w':=⟨Gh.le.refl g,oN _,λ_ _ _=>rfl,λ_ _ _ _=>rfl,rfl,rfl⟩;exact⟨_,g,μ,rfl,hinv.newOwn (d:=0) hc hinv.agree (.inl ⟨a,rfl,rfl,ha⟩) (λ_ _=>⟨a,rfl⟩) (by intro b hb;cases a<;>simp[Ac]at hb),hc.mono λ_ h=>h.elim,oQ _⟩
 ·obtain⟨i0,z,hi0,hz0,hs0,hzc,hby⟩:=Xy;have c:=Any8.slices_Grow_grow ae i0 z hi0 hz0 (by omega) a 0 0 n [] w (by omega) (by omega) (by
   have:(0+n)*i0.bytes≤2^30*64:=Nat.mul_le_mul (by omega) hby;omega) (by omega) (by simp) (λ_=>rfl) (by simp)
  refine Calls.mono c ?_;rintro e w' ⟨rfl,rfl⟩;have hG:=grownCap_ge w (0+n) 0 (ZO.t 25);generalize grownCap w (0+n) 0 (ZO.t 25)=G at hG ⊢;have hsz:(#[]++Builtin.zeroCells z.cells (0+n-0)++Builtin.zeroCells z.cells (G-(0+n))).size=G*4:=by
   simp only[Array.size_append,size_zeroCells,hzc,Array.size_empty];omega
  have hsz':([].toArray++Builtin.zeroCells z.cells (0+n-0)++Builtin.zeroCells z.cells (G-(0+n))).size=G*4:=hsz;generalize [].toArray++Builtin.zeroCells z.cells (0+n-0)++Builtin.zeroCells z.cells (G-(0+n))=arr at hsz' ⊢;have hold:∀b,b <w.heap.size→∀x,(w.heap.push x)[b]?=w.heap[b]?:=λb hb x=>by rw[Array.getElem?_push,if_neg (by omega)]
  have hagree:∀b o v,g.m b o=some v→b <w.heap.size:=by
   intro b o v hv;have h2:=hinv.agree b o v hv;rcases om b w.heap.size with h'|h'
   ·exact h'
   ·simp[World.cell?,qh h']at h2
  have hc:Chg (λ_=>False) g w g (w.drew.alloc (.cells arr (ZO.t 25))):=⟨Gh.le.refl g,by show w.heap.size≤(w.heap.push _).size;rw[Array.size_push];omega,λb hb _=>hold b hb _,λ_ _ _ _=>rfl,rfl,rfl⟩;refine⟨_,g,μ,rfl,hinv.newOwn (d:=0) (e:=84) (s:=4) (xs:=[]) hc (λb o v hv=>?_) (.inr ⟨w.heap.size,G,arr,λ_=> .bool false,rfl,by omega,by show (w.heap.push _)[w.heap.size]?=_;rw[Array.getElem?_push,if_pos rfl];rfl,by simp,hsz',by simp,by simp,λo _=>?_⟩) (λ_ h=>absurd rfl h) ?_,hc.mono λ_ h=>h.elim,oQ _⟩
  ·have h1:=hinv.agree b o v hv;have h2:=hold b (hagree b o v hv) (.cells arr (ZO.t 25));rw[World.cell?_of_block (a:=⟨b,o,none⟩) h2];exact h1
  ·cases h4:g.m w.heap.size o with
   |none=>rfl
   |some v=>have:=hagree _ _ _ h4;omega
  ·intro b hb;simp only[Ac]at hb;split at hb
   ·cases hb
   ·simp only[oH]at hb;rw[←hb];exact oN _
theorem jX (L:List (List F)) (hL:L.length≤2^20) (hn:L.flatten.length≤2^30):PX 140 [.list (L.map λl=> .list (l.map F.V))] [.list (L.flatten.map F.V)]:=by
 refine BJ 140 ?_;have hh:∀l:List F,BM 4 (l.map F.V)=true:=by
  intro l;cases l with
  |nil=>rfl
  |cons x xs=>obtain⟨op,n,ins,kids⟩:=x;simp[F.V_eq,V.cells]
 have q:=gp L.flatten.length hn [];obtain⟨U,hU⟩:∃U:Nat→List F,∀k,U k=(L.take k).flatten:=⟨_,λ_=>rfl⟩;have hU0:U 0=[]:=by rw[hU];rfl
 have hUn:U L.length=L.flatten:=by rw[hU,od]
 have hUs:∀k l,L[k]?=some l→U (k+1)=U k++l:=by
  intro k l h;rw[hU,hU,oW,h];simp
 have hUl:∀k,(U k).length≤L.flatten.length:=by
  intro k;rw[hU];conv=>rhs;rw[←pQ k L,List.flatten_append,oL]
  omega
 rw[←hUn]at q hUl ⊢;rw[←hUn]at hn;simp only[Ai 140,AE,AF,AM,AA 140 0,AA 140 1,AA 140 2,AX];simp;refine AN L.length (λk=>⟨[(0,.v (.list (L.map λl=> .list (l.map F.V)))),(3,.v (.int .i64 (U k).length)),(9,.v (.list (L.map λl=> .list (l.map F.V)))),(10,.v (.int .i64 L.length)),(11,.v (.int .i64 k))],[]⟩) (by simp[hU0]) ?_;intro k hk;simp only[Zw,A8 140 0,AA 140 3];simp;by_cases h1:k <L.length
 ·obtain⟨l,hl⟩:∃l,L[k]?=some l:=⟨_,oI h1⟩;have w1:=Bb k;have hle:=hUl (k+1);rw[hUs k l hl,oL]at hle;rw[hUs k l hl,oL];generalize (U k).length=s at*;have w2:IntKind.i64.wrap ((s:Int)+l.length)=s+l.length:=AL;have w3:¬((s:Int)+l.length <0):=by omega
  rw[if_pos (by omega),AD];simp only[AA 140 4,AA 140 5,AA 140 6];have hl':L[k]'h1=l:=by have:=oI h1;rw[hl]at this;exact(qv this).symm
  simp[hl',w2,w3,AD,AA 140 8,w1,h1]
 ·have hk2:k=L.length:=by omega
  subst hk2;rw[if_neg (by omega),AJ];simp only[AA 140 9];simp
  first|refine⟨_,_,q,?_⟩|refine⟨_,q,?_⟩|refine⟨_,⟨_,q⟩,?_⟩|exact⟨_,q⟩|exact⟨_,_,q⟩|refine⟨⟨_,q⟩,?_⟩
  simp[AA 140 10];refine AN L.length (λk=>⟨[(6,.own 84 4 ((U k).map F.V)),(25,.v (.list (L.map λl=> .list (l.map F.V)))),(26,.v (.int .i64 L.length)),(27,.v (.int .i64 k))],[]⟩) (by simp[hU0]) ?_;intro k hk;simp only[Zw,A8 140 1,AA 140 11];simp;by_cases h1:k <L.length
  ·obtain⟨l,hl⟩:∃l,L[k]?=some l:=⟨_,oI h1⟩;have w1:=Bb k;have hle:=hUl (k+1);rw[hUs k l hl,oL]at hle;rw[hUs k l hl,oh];generalize U k=s at*;have hroom:AU (s.length+l.length) 64=true:=by simp[AU];omega
   rw[if_pos (by omega),AD];simp only[AA 140 12,AA 140 13];have hl':L[k]'h1=l:=by have:=oI h1;rw[hl]at this;exact(qv this).symm
   simp[hl',hh,hroom,AA 140 14,w1,h1]
  ·have hk3:k=L.length:=by omega
   subst hk3;rw[if_neg (by omega),AJ];simp[AA 140 15,AB,AW 140]
section
def qS:Bool→List Nat→PI
 |true,ks=> .eqA true ks (.t 20 false) (.t 24 false)
 |false,_=> .bin .neq (.t 20 false) (.t 24 false)
def Vc:List GI:=[⟨none,.mv 4 (.c (.v (.bool false)))⟩]
def cY:List GI:=[⟨none,.mv 6 (.t 0 false)⟩,⟨none,.p 7 (.alen (.t 6 false))⟩,⟨none,.mv 8 (.t 1 false)⟩,⟨none,.p 9 (.alen (.t 8 false))⟩,⟨none,.p 10 (.bin .neq (.t 7 false) (.t 9 false))⟩]
def cX:List GI:=[⟨none,.mv 5 (.c (.v (.int .i64 0)))⟩]
def cW:List GI:=[⟨none,.mv 11 (.t 5 false)⟩,⟨none,.mv 12 (.t 0 false)⟩,⟨none,.p 13 (.alen (.t 12 false))⟩,⟨none,.p 14 (.bin .lss (.t 11 false) (.t 13 false))⟩]
def cU (s:Nat) (g:Bool) (ks:List Nat):List GI:=[⟨none,.mv 17 (.t 0 false)⟩,⟨none,.mv 18 (.t 5 false)⟩,⟨none,.p 19 (.iaddr (.t 17 false) (.t 18 false) s)⟩,⟨none,.p 20 (.load (.t 19 false) s g)⟩,
 ⟨none,.mv 21 (.t 1 false)⟩,⟨none,.mv 22 (.t 5 false)⟩,⟨none,.p 23 (.iaddr (.t 21 false) (.t 22 false) s)⟩,⟨none,.p 24 (.load (.t 23 false) s g)⟩,⟨none,.p 25 (qS g ks)⟩]
def YX:List GI:=[⟨none,.mv 15 (.t 5 false)⟩,⟨none,.p 16 (.bin .add (.t 15 false) (.c (.v (.int .i64 1))))⟩,⟨none,.mv 5 (.t 16 false)⟩]
def cT:List GI:=[⟨none,.mv 4 (.c (.v (.bool true)))⟩]
def cZ (s:Nat) (g:Bool) (ks:List Nat):AC:=(.seq (.seq (.reg cW [0,1,5,14]) (.cond (.t 14 false) .skip (.exit 0))) (.seq (.block 1 (.seq (.regD (cU s g ks) [0,1,5,25] [[],[],[0,1],[0,1,2],[],[],[4,5],[4,5,6],[0,1,2,3,4,5,6,7]]) (.cond (.t 25 false) (.seq (.reg Vc [4]) .ret) .skip))) (.reg YX [0,1,5])))
def cS (s:Nat) (g:Bool) (ks:List Nat):AC:=(.seq (.reg Vc [0,1]) (.seq (.seq (.reg cY [0,1,10]) (.cond (.t 10 false) (.seq (.reg Vc [4]) .ret) .skip)) (.seq (.seq (.reg cX [0,1,5]) (.block 0 (.loop (cZ s g ks)))) (.seq (.reg cT [4]) .ret))))
theorem nx:CL Tryz.prog Ah 82 2 (cS 1 false []) [.t 4]=true:=by kernel_rfl
theorem k8:CL Tryz.prog Ah 172 2 (cS 1 false []) [.t 4]=true:=by kernel_rfl
theorem kz:CL Tryz.prog Ah 173 2 (cS 1 false []) [.t 4]=true:=by kernel_rfl
theorem nz:CL Tryz.prog Ah 80 2 (cS 2 true [0,0]) [.t 4]=true:=by kernel_rfl
theorem k9:CL Tryz.prog Ah 170 2 (cS 4 true [0,0,0,0]) [.t 4]=true:=by kernel_rfl
def nU (s:Nat) (g:Bool) (ks:List Nat) (x:V):Prop:=
 match g with
 |true=>∃cs,x= .agg cs∧cs.length=s∧V.eqL ks cs cs=some true
 |false=>s=1∧∃k n,x= .int k n
variable {ks:List Nat} {n:Nat}
theorem pS {s:Nat} {g:Bool} (hk:CL Tryz.prog Ah n 2 (cS s g ks) [.t 4]=true) (xs:List V) (hl:xs.length≤2^40) (hx:∀x∈xs,nU s g ks x):PX n [.list xs,.list xs] [.bool true]:=by
 refine F5 hk rfl ?_;simp only[cS,AE,AF,AM,AK,Vc,cY,AX];simp[AD,cX];refine AN xs.length (λk=>⟨[(0,.v (.list xs)),(1,.v (.list xs)),(5,.v (.int .i64 k))],[]⟩) (by simp) ?_;intro k hkl;simp only[cZ,AE,AF,AM,AK,cW];simp;by_cases h1:k <xs.length
 ·obtain⟨x,hxk⟩:∃x,xs[k]?=some x:=⟨_,oI h1⟩;have w1:IntKind.i64.wrap ((k:Int)+1)=k+1:=AL;have hs:=hx x (oK hxk);rw[if_pos (by omega),AD];simp only[AS,cU];cases g with
  |true=>
   obtain⟨cs,rfl,hcs,hq⟩:=hs;have ht:cs.take s=cs:=o6 (Nat.le_of_eq hcs);simp[hxk,hcs,ht,hq,qS];simp[AD,YX,w1,h1]
  |false=>
   obtain⟨rfl,kk,m,rfl⟩:=hs;simp[hxk,qS];simp[AD,YX,w1,h1]
 ·have hk2:k=xs.length:=by omega
  subst hk2;rw[if_neg (by omega),AJ];simp[cT,AB]
theorem eI (hk:CL Tryz.prog Ah n 2 (cS 1 false []) [.t 4]=true) (k:IntKind) (l:List Int) (hl:l.length≤2^40):PX n [AH k l,AH k l] [.bool true]:=
 pS hk _ (by simpa using hl) λx hx=>by
  obtain⟨m,_,rfl⟩:=oP.1 hx;exact⟨rfl,k,m,rfl⟩
theorem eT (l:List Int) (hl:l.length≤2^40):PX 82 [AH .i64 l,AH .i64 l] [.bool true]:=eI nx _ l hl
theorem aB (l:List Int) (hl:l.length≤2^40):PX 172 [AH .u64 l,AH .u64 l] [.bool true]:=eI k8 _ l hl
theorem iy (l:List Int) (hl:l.length≤2^40):PX 173 [AH .u8 l,AH .u8 l] [.bool true]:=eI kz _ l hl
theorem mg (l:List (Int×Int)) (hl:l.length≤2^40):PX 80 [.list (l.map Bn),.list (l.map Bn)] [.bool true]:=
 pS nz _ (by simpa using hl) λx hx=>by
  obtain⟨m,_,rfl⟩:=oP.1 hx;exact⟨_,rfl,rfl,by simp[V.eqL,V.eq1]⟩
theorem jA (l:List Lic) (hl:l.length≤2^40):PX 170 [.list (l.map Lic.V),.list (l.map Lic.V)] [.bool true]:=
 pS k9 _ (by simpa using hl) λx hx=>by
  obtain⟨m,_,rfl⟩:=oP.1 hx;exact⟨_,rfl,rfl,by simp[V.eqL,V.eq1]⟩
end
def M1 (L R S:List Int):V:= .agg [AH .u64 L,AH .u64 R,AH .u8 S]
theorem mf (L R S:List Int) (h1:L.length≤2^40) (h2:R.length≤2^40) (h3:S.length≤2^40):PX 81 [M1 L R S,M1 L R S] [.bool true]:=by
 refine BJ 81 ?_;have q1:=(aB L h1).fsp;have q2:=(aB R h2).fsp;have q3:=(iy S h3).fsp;simp[AH]at q1 q2 q3;simp only[Ai 81,AE,AF,AA 81 0,AA 81 1,AX,M1,AH];simp;refine⟨_,_,q1 _,?_⟩;simp only[AA 81 2];simp;refine⟨_,_,q2 _,?_⟩;simp only[AA 81 3];simp;refine⟨_,_,q3 _,?_⟩;simp[AA 81 4,AB,AW 81]
theorem Zo (n:Int):PX 269 [.int .i64 n,.int .i64 n] [.int .i64 0]:=by
 refine BJ 269 ?_;simp[Ai 269,awp,AA 269 0,AA 269 1,AA 269 3,AA 269 5,AW 269,AX]
theorem Zp (l:List Int) (hl:l.length≤2^40):PX 268 [AH .i64 l,AH .i64 l] [.int .i64 0]:=by
 refine BJ 268 ?_;have q:=(Zo l.length).fsp;simp at q;simp only[Ai 268,AE,AF,AM,AA 268 0,AA 268 1,AX,AH];simp;refine AN l.length (λk=>⟨[(0,.v (.list (l.map (.int .i64)))),(1,.v (.list (l.map (.int .i64)))),(5,.v (.int .i64 k))],[]⟩) (by simp) ?_;intro k hkl;simp only[Zw,A8 268 0,AA 268 2];by_cases h1:k <l.length
 ·obtain⟨x,hx⟩:∃x,l[k]?=some x:=⟨_,oI h1⟩;have w1:=Bb k;have h2:(k:Int) <l.length:=by omega
  simp[h2,AD];simp only[AS,AA 268 4];simp[hx];simp[AA 268 3,w1,h1]
 ·have hk2:k=l.length:=by omega
  subst hk2;simp[AJ];simp only[AA 268 6];simp;refine⟨_,_,q _,?_⟩;simp[AB,AW 268]
def Lu (vs:List Val):List Int:=vs.flatMap λv=>[v.a,v.n,v.d]
theorem OF (vs:List Val):(Lu vs).length=3*vs.length:=by
 unfold Lu;induction vs with
 |nil=>rfl
 |cons v vs ih=>rw[oZ,oL,ih,oj];simp;omega
theorem ig (vs:List Val) (hl:vs.length≤2^30):PX 200 [.list (vs.map Val.V)] [AH .i64 (Lu vs)]:=by
 refine BJ 200 ?_;simp only[Ai 200,AE,AF,AM,AA 200 0,AA 200 1,AA 200 2,AX,AH];simp;refine AN vs.length (λk=>⟨[(0,.v (.list (vs.map Val.V))),(3,.own 3 1 ((Lu (vs.take k)).map (.int .i64))),(4,.v (.int .i64 k))],[]⟩) (by simp[Lu]) ?_;intro k hkl;simp only[Zw,A8 200 0,AA 200 3];by_cases h1:k <vs.length
 ·obtain⟨x,hx⟩:∃x,vs[k]?=some x:=⟨_,oI h1⟩;have w1:=Bb k;have h2:(k:Int) <vs.length:=by omega
  have hn:Lu (vs.take (k+1))=Lu (vs.take k)++[x.a,x.n,x.d]:=by
   unfold Lu;rw[oW,hx,pm];rfl
  have hlen:=OF (vs.take k);rw[ol]at hlen;rw[hn];generalize Lu (vs.take k)=L at*;have hroom:AU (L.length+3) 8=true:=by simp[AU];omega
  simp[h2,AD];simp only[AS,AA 200 5];simp[hx,Val.V,hroom];simp[AA 200 4,w1,h1]
 ·have hk2:k=vs.length:=by omega
  subst hk2;rw[od];simp[AJ];simp[AA 200 6,AB,AW 200]
theorem iz (t:Th) (ht:t.ok):PX 171 [t.V,t.V] [.int .i64 0]:=by
 induction t using Th.ind with
 |h cs vs ps ih=>
  obtain⟨h1,h2,h3,_,h5⟩:=ht;refine BJ 171 ?_;have q1:=(Zp cs (by omega)).fsp;have q2:=ig vs h2;have q3:=Zp (Lu vs) (by rw[OF];omega);have q4:=(Zo ps.length).fsp;simp[AH]at q1 q2 q3 q4;simp only[Zw,Ai 171,AA 171 0,AA 171 1,AX,Th.V_eq,AH];simp;refine⟨_,_,q1 _,?_⟩;simp[AA 171 2,AD];simp only[AS,AA 171 4];simp;refine⟨_,_,⟨rfl,rfl⟩,_,q2,?_⟩;simp;refine⟨_,_,⟨rfl,rfl⟩,_,q2,?_⟩;simp;refine⟨_,_,⟨rfl,rfl⟩,_,q3,?_⟩;simp[AA 171 5,AA 171 7];refine AN ps.length (λk=>⟨[(2,.ref 0 0),(3,.ref 1 0),(7,.v (.int .i64 k))],[.cells (Th.mk cs vs ps).cells,.cells (Th.mk cs vs ps).cells]⟩) (by simp[Th.cells,Th.cs,Th.vs,Th.ps,AH]) ?_;intro k hkl;simp only[Zw,A8 171 0,AA 171 8,Th.cells,Th.cs,Th.vs,Th.ps,AH];by_cases h1:k <ps.length
  ·obtain⟨x,hx⟩:∃x,ps[k]?=some x:=⟨_,oI h1⟩;have w1:=Bb k;have h2:(k:Int) <ps.length:=by omega
   have qx:=ih x (oK hx) (h5 x (oK hx));obtain⟨a,b,c⟩:=x;simp only[Th.V_eq,AH]at qx;simp[h2,AD];simp only[AS,AA 171 10];simp[hx,Th.V_eq,AH];refine⟨_,_,⟨rfl,rfl⟩,_,qx,?_⟩;simp[AA 171 11,AA 171 9,w1,h1]
  ·have hk2:k=ps.length:=by omega
   subst hk2;simp[AJ];simp only[AA 171 13];simp;refine⟨_,_,q4 _,?_⟩;simp[AB,AW 171]
theorem mj (t:Th) (ht:t.ok):PX 79 [t.V,t.V] [.bool true]:=by
 refine BJ 79 ?_;have q1:=(iz t ht).fsp;obtain⟨cs,vs,ps⟩:=t;simp only[Ai 79,AE,AF,AA 79 0,AA 79 1,AX];simp only[Th.V_eq,AH]at*;simp at q1;simp;refine⟨_,_,q1 _,?_⟩;simp[AB,AW 79]
end Go.Va
