/- Laws that ExtractAnswers leans on, part 30. No condition of its own. -/
import Derived.Test.YtopldfpkgbkomaaGreatDoorL23
import Derived.Test.YtopldfpkgbkomaaGreatDoorL27
set_option linter.all false
set_option maxRecDepth 100000
set_option maxHeartbeats 4000000
noncomputable section
namespace Go.Va
open Go.Proofs
section
variable {i:Nat}
theorem RH {T:List Clm} (hT:MeanOK T) {c:Clm} (hc:T[i]?=some c):Ar T i=if c.refs=[] then c.body else .mk 4 0 [] [c.body,.mk 5 0 [] (c.refs.map (Ar T))]:=by
 obtain⟨hi,_⟩:=oM.1 hc;have h1:=GC T hc;have h2:=Dk T (i+1) (by omega);have h3:=Dk T i (by omega);have hl:=C5 T;have e:(BA T)[i]?=some (DQ (BA (T.take i)) c):=by
  have:((BA T).take (i+1))[i]?=(BA T)[i]?:=List.getElem?_take_of_lt (by omega);have hn:((BA T).take i).length=i:=by rw[ol];omega
  rw[←this,←h2,h1,h3,pC (by omega),hn,rI];rfl
 unfold Ar;rw[qT,e,og];unfold DQ;split
 ·rfl
 ·congr 3
  refine congrArg _ (rl λr hr=>?_);have:=hT.low i c hc r hr;rw[h3,List.getElem?_take_of_lt (by omega),oI (by omega)];rfl
theorem Zq (l:List Clm) (hl:∀c∈l,c.ok) (hn:l.length≤2^40) (hz:CD l=0) (i:Nat) (hi:i <l.length):PX 261 [.list (l.map Clm.V),.int .i64 i] [.int .i64 0]:=by
 refine BJ 261 ?_;have q:=(XX l hl hn).fsp;rw[hz]at q;simp at q;have h1:¬(i:Int) <0:=by omega
 have h2:¬(l.length:Int)≤i:=by omega
 simp only[Ai 261,AE,AF,AK,AA 261 0,AA 261 1,AX];simp;refine⟨_,_,q _,?_⟩;simp[AA 261 2,AD,AA 261 4,h1,h2];simp[AA 261 6,AB,AW 261]
theorem kF (T:List Clm) (hT:MeanOK T) (i:Nat) (c:Clm) (hc:T[i]?=some c) (R4:Row) (ih:∀r∈c.refs,PX 262 [.list (T.map Clm.V),.int .i64 r] [(Ar T r).V,.bool true]) (Q:AExit→St→Prop)
  (hQ:∀e J,AG e 0= .v (.list (T.map Clm.V))→AG e 1= .v (.int .i64 i)→AG e 4= .ref 0 0→AG e 6= .ref 1 0→Q (.exit 0) ⟨e,R4::rB 5 0 [] (c.refs.map (Ar T))::J⟩):
  awp Tryz.prog Ah (.loop (lG 262 0)) Q ⟨[(0,.v (.list (T.map Clm.V))),(1,.v (.int .i64 i)),(4,.ref 0 0),(6,.ref 1 0),(7,.v (.int .i64 0))],[R4,rB 5 0 [] []]⟩:=by
 have hlr:=hT.refs c (oK hc);refine AY c.refs.length (λk s=>∃J,s=⟨[(0,.v (.list (T.map Clm.V))),(1,.v (.int .i64 i)),(4,.ref 0 0),(6,.ref 1 0),(7,.v (.int .i64 k))],R4::rB 5 0 [] ((c.refs.map (Ar T)).take k)::J⟩) ⟨[],by simp⟩ ?_;rintro k s hk ⟨J,rfl⟩;simp only[Zw,A8 262 0,AA 262 5,rB];simp[hc,Clm.V,AH];by_cases h1:k <c.refs.length
 ·obtain⟨r,hr⟩:∃r,c.refs[k]?=some r:=⟨_,oI h1⟩;have hw:=Bb k;have q:=(ih r (oK hr)).fsp;have hroom:AU (k+1) 64=true:=by simp[AU];omega
  have hm:min k c.refs.length=k:=by omega
  have e:(c.refs.map (F.V ∘ Ar T)).take (k+1)=(c.refs.map (F.V ∘ Ar T)).take k++[(Ar T r).V]:=by
   rw[oW,oX,hr];rfl
  rw[if_pos (by omega),AD];simp only[AA 262 7];generalize Ar T r=M at*;obtain⟨mo,mn,mi,mk⟩:=M;simp[F.V_eq]at q;simp[hc,Clm.V,AH,hr];refine⟨_,_,q _,?_⟩;simp[AO,AA 262 8,AD];simp only[AA 262 10];simp[hm,hroom];simp[AA 262 6,hw,h1,e,F.V_eq]
 ·have hk2:k=c.refs.length:=by omega
  subst hk2;rw[if_neg (by omega),AJ];have:=hQ;simp[rB]at this;have ee:(c.refs.map (F.V ∘ Ar T)).take c.refs.length=c.refs.map (F.V ∘ Ar T):=o6 (by simp);rw[ee];exact this _ _ rfl rfl rfl rfl
theorem gQ (T:List Clm) (hT:MeanOK T):∀i:Nat,i <T.length→PX 262 [.list (T.map Clm.V),.int .i64 i] [(Ar T i).V,.bool true]:=by
 intro i;induction i using Nat.strongRecOn with
 |_ i ih=>
  intro hi;obtain⟨c,hc⟩:∃c,T[i]?=some c:=⟨_,oI hi⟩;have hm:=RH hT hc;have hmem:Ar T i∈BA T:=by
   unfold Ar;have:=C5 T;rw[qT,oI (by omega)];exact pR _
  have hok:=hT.mean _ hmem;have ihr:∀r∈c.refs,PX 262 [.list (T.map Clm.V),.int .i64 r] [(Ar T r).V,.bool true]:=by
   intro r hr;have:=hT.low i c hc r hr;obtain⟨m,rfl⟩:∃m:Nat,r=m:=⟨r.toNat,by omega⟩;exact ih m (by omega) (by omega)
  have hloop:=λR4 Q=>kF T hT i c hc R4 ihr Q;have q214:=Ur _ hok.1;rw[hok.2]at q214;refine BJ 262 ?_;simp only[Zw,Ai 262,AA 262 0,AA 262 1,AX];by_cases h0:c.refs=[]
  ·rw[if_pos h0]at hm;rw[hm];obtain⟨refs,op,n,ins,kids⟩:=c;simp only at h0;subst h0;simp[hc,Clm.V,AH];simp[AA 262 2,AB,AW 262,hc,Clm.V,F.V_eq,AO,F.op,F.n,F.ins,F.kids,D.vs?,D.v?]
  ·rw[if_neg h0]at hm;rw[hm]at q214 ⊢;generalize c.refs.map (Ar T)=M at*;simp[hc,Clm.V,AH,h0,AD,AA 262 3,AO,AA 262 4];simp only[rB]at hloop;simp at hloop;refine hloop _ _ ?_;intro e J f0 f1 f4 f6;refine⟨rfl,?_⟩;obtain⟨refs,op,n,ins,kids⟩:=c;simp only[F.V_eq,oV,pf]at q214;simp only[AS,AA 262 11];simp[f0,f1,f4,f6,hc,Clm.V,AH,AO,F.op,F.n,F.ins,F.kids];simp only[AA 262 12];simp;refine⟨_,_,⟨rfl,rfl⟩,_,q214,?_⟩;simp[AO,AB,AW 262,F.V_eq,D.vs?,D.v?]
theorem aC (T:List Clm) (hT:MeanOK T) (hz:CD T=0) (i:Nat) (hi:i <T.length):PX 163 [.list (T.map Clm.V),.int .i64 i] [(Ar T i).V,.int .i64 0]:=by
 refine BJ 163 ?_;have q1:=(Zq T hT.ok (by have:=hT.len;omega) hz i hi).fsp;have q2:=(gQ T hT i hi).fsp;generalize Ar T i=M at*;obtain⟨op,n,ins,kids⟩:=M;simp[F.V_eq]at q1 q2;simp only[Ai 163,AE,AF,AK,AA 163 0,AA 163 1,AX,F.V_eq];simp;refine⟨_,_,q1 _,?_⟩;simp[AA 163 2,AD];simp only[AA 163 4];simp;refine⟨_,_,q2 _,?_⟩;simp[AO,AA 163 5];simp[AA 163 7,AO,AB,AW 163,D.vs?,D.v?]
end
theorem gS (l:List Int) (hl:l.length≤2^40) (n:Int):PX 260 [AH .i64 l,.int .i64 n] [.bool (l.any λx=>n==x)]:=by
 refine BJ 260 ?_;obtain⟨R,hR⟩:∃R,(l.any λx=>n==x)=R:=⟨_,rfl⟩;rw[hR];simp only[Ai 260,AE,AF,AM,AA 260 0,AA 260 1,AX,AH];simp;refine Al l.length (λk=>⟨[(0,.v (.list (l.map (.int .i64)))),(1,.v (.int .i64 n)),(5,.v (.int .i64 k))],[]⟩) (λk=>∀x∈l.take k,(n==x)=false) (by simp) (by simp) ?_;intro k hk hI;simp only[Zw,A8 260 0,AA 260 2];simp;by_cases h1:k <l.length
 ·obtain⟨x,hx⟩:∃x,l[k]?=some x:=⟨_,oI h1⟩;have hxm:=oK hx;have hw:=Bb k;rw[if_pos (by omega),AD];simp only[AA 260 4];simp[hx];by_cases c1:x=n
  ·have:R=true:=by rw[←hR,qN];exact⟨x,hxm,by simp[c1]⟩
   simp[c1,AB,AA 260 5,AW 260,this]
  ·have bad:=HU (p:=λx=>n==x) hx hI (by simpa using λh=>c1 h.symm);simp[c1,AD,AA 260 3,hw,h1];simpa using bad
 ·have hk2:k=l.length:=by omega
  subst hk2;rw[if_neg (by omega),AJ];have:R=false:=by rw[←hR,pu];simpa using hI
  simp[AB,AA 260 6,AW 260,this]
theorem aD (r:Rgt) (h1:r.claims.length≤2^30) (h2:r.bad.length≤2^40):PX 162 [r.V] [AH .i64 (Bq r)]:=by
 refine BJ 162 ?_;unfold Bq;obtain⟨file,state,force,claims,dates,bad,owners,lics⟩:=r;simp only at h1 h2 ⊢;simp only[Ai 162,AE,AF,AM,AA 162 0,AA 162 1,AA 162 2,AX];simp[Rgt.V,Rgt.cs,AH];by_cases hf:force=0
 ·subst hf;simp;refine AN claims.length (λk=>⟨[(1,.ref 0 0),(3,.own 3 1 ((((List.range k).map λ(i:Nat)=>(i:Int)).filter λi=> !(bad.any λx=>i==x)).map (.int .i64))),(4,.v (.int .i64 k))],
   [.cells ((Rgt.cs ⟨file,state,0,claims,dates,bad,owners,lics⟩).map .v)]⟩) (by simp[Rgt.cs,AH]) ?_
  intro k hk;simp only[Zw,A8 162 0,AA 162 3];by_cases hlt:k <claims.length
  ·have hw:=Bb k;have q:=(gS bad h2 k).fsp;have hltI:(k:Int) <claims.length:=by omega
   have hlen:(((List.range k).map λ(i:Nat)=>(i:Int)).filter λi=> !(bad.any λx=>i==x)).length≤k:=by
    have:=pG (λi=> !(bad.any λx=>i==x)) ((List.range k).map λ(i:Nat)=>(i:Int));simpa using this
   have hs:(((List.range (k+1)).map λ(i:Nat)=>(i:Int)).filter λi=> !(bad.any λx=>i==x))=(((List.range k).map λ(i:Nat)=>(i:Int)).filter λi=> !(bad.any λx=>i==x))++(if (bad.any λx=>(k:Int)==x) then [] else [(k:Int)]):=by
    rw[po,oh,pw]
    congr 1
    simp only[oV,pf,qt,rU];cases (bad.any λx=>(k:Int)==x)<;>rfl
   rw[hs];generalize (((List.range k).map λ(i:Nat)=>(i:Int)).filter λi=> !(bad.any λx=>i==x))=L at*;generalize (bad.any λx=>(k:Int)==x)=B at*;have hroom:AU (L.length+1) 8=true:=by simp[AU];omega
   simp[AH]at q;simp[Rgt.cs,AH,hltI,AD];simp only[AA 162 5];simp;refine⟨_,_,q _,?_⟩;simp only[AA 162 6];cases B with
   |true=>simp[AA 162 4,hw,hlt]
   |false=>simp[AA 162 7,hroom,AA 162 4,hw,hlt]
  ·have hk2:k=claims.length:=by omega
   subst hk2;simp[Rgt.cs,AH,AJ];simp[AB,AA 162 8,AW 162]
 ·simp[hf];refine As ?_;simp only[Zw,A8 162 0,AA 162 3];have hf':(force==0)=false:=by simpa using hf
  by_cases h0:0 <claims.length
  ·simp[h0,hf',AJ,AB,AA 162 8,AW 162]
  ·simp[h0,AJ,AB,AA 162 8,AW 162]
section
def Ru (nc:Int) (t:Th) (rs:List Rgt):Int:=if Hb t≠0 then Hb t else if t.kinds nc||rs.all (λr=>(Bq r).isEmpty) then 0 else 7
def UK (nc:Int) (I:Int→Int→Bool) (t:Th) (rs:List Rgt):List (Int×Int):=if Ru nc t rs=0 then A5 I t rs else []
variable {nc:Int}
theorem Rgt.fine.hld7 {r:Rgt} (h:r.fine nc) {i:Int} (hi:0≤i∧i <r.claims.length) {t:Th} (ht:Hb t=0) (hk:t.kinds nc=false):IL nc (Go.Va.Ar r.claims i) t=7:=by
 have hm:=h.meanAt hi;unfold IL;rw[(h.mean.mean _ hm).2,ht,hk];simp
variable {pa:List V}
theorem nZ {I:Int→Int→Bool} (hp:pa.length≤2^40) (hI:∀a b:Int,0≤a→a <pa.length→0≤b→b <pa.length→PX 311 [.list pa,.int .i64 a,.int .i64 b] [.bool (I a b)])
  (t:Th) (ht:t.ok) (hs:t.size≤2^40) (hte:Hb t=0) (htk:t.kinds pa.length=true) (rs:List Rgt) (i:Nat) (r:Rgt) (hr:rs[i]?=some r) (hf:r.fine pa.length) (acc:List (Int×Int)) (hacc:acc.length+(Bq r).length≤2^40) (J:List Row) (Q:AExit→St→Prop)
  (hQ:∀e J,AG e 0= .v (.list pa)→AG e 1= .v (.list (rs.map Rgt.V))→AG e 5= .ref 0 0→AG e 9= .own 186 2 ((acc++Bt I t r).map Bn)→AG e 10= .v (.int .i64 i)→Q (.exit 2) ⟨e,.cells t.cells::J⟩):
  awp Tryz.prog Ah (.loop (lG 73 1)) Q ⟨[(0,.v (.list pa)),(1,.v (.list (rs.map Rgt.V))),(5,.ref 0 0),(9,.own 186 2 (acc.map Bn)),(10,.v (.int .i64 i)),(11,.v (AH .i64 (Bq r))),(12,.v (.int .i64 0))],.cells t.cells::J⟩:=by
 obtain⟨lv,hlv⟩:∃lv,Bq r=lv:=⟨_,rfl⟩;have hag:Bt I t r=(lv.filter λx=>(Ar r.claims x).hold I t).map λx=>(r.file,x):=by unfold Bt;rw[hlv]
 rw[hag]at hQ;have hlt:=λx (hx:x∈lv)=>G7 (r:=r) (i:=x) (by rw[hlv];exact hx);have hlen:lv.length≤r.claims.length:=by rw[←hlv];exact Ez r
 have h32:=hf.mean.len;rw[hlv]at hacc ⊢;refine AY lv.length (λk s=>∃J,s=⟨[(0,.v (.list pa)),(1,.v (.list (rs.map Rgt.V))),(5,.ref 0 0),(9,.own 186 2 ((acc++((lv.take k).filter λx=>(Ar r.claims x).hold I t).map λx=>(r.file,x)).map Bn)),(10,.v (.int .i64 i)),(11,.v (AH .i64 lv)),(12,.v (.int .i64 k))],.cells t.cells::J⟩) ⟨J,by simp⟩ ?_;rintro k s hk ⟨J,rfl⟩;simp only[Zw,A8 73 1,AA 73 10,AH];by_cases h1:k <lv.length
 ·obtain⟨x,hx⟩:∃x,lv[k]?=some x:=⟨_,oI h1⟩;have hxm:=oK hx;have hw:=Bb k;obtain⟨m,rfl⟩:∃m:Nat,x=m:=⟨x.toNat,by have:=hlt x hxm;omega⟩;have hm:=hlt _ hxm;have q1:=aC r.claims hf.mean hf.z m (by omega);have hmem:=hf.meanAt hm;have q2:=(XS hp hI (Ar r.claims m) (hf.mean.mean _ hmem).1 t ht hs).fsp;rw[hf.hld hm hte htk]at q2;have htake:(lv.take (k+1)).filter (λx=>(Ar r.claims x).hold I t)=(lv.take k).filter (λx=>(Ar r.claims x).hold I t)++(if (Ar r.claims m).hold I t then [(m:Int)] else []):=by
   rw[oW,hx,pw]
   congr 1
   simp only[Option.toList_some,qt,rU]
  have hfl:((lv.take k).filter λx=>(Ar r.claims x).hold I t).length≤k:=by
   have:=pG (λx=>(Ar r.claims x).hold I t) (lv.take k);rw[ol]at this;omega
  rw[htake];generalize (lv.take k).filter (λx=>(Ar r.claims x).hold I t)=FL at*;generalize (Ar r.claims m).hold I t=B at*;generalize Ar r.claims m=M at*;have hroom:AU (acc.length+FL.length+1) 16=true:=by simp[AU];omega
  obtain⟨mo,mn,mi,mk⟩:=M;obtain⟨tc,tv,tp⟩:=t;simp only[F.V_eq,Th.V_eq,AH]at q1 q2;simp at q2;simp[h1,AD];simp only[AS,AA 73 12];simp[hr,hx,Rgt.V,Rgt.cs];refine⟨_,_,⟨rfl,rfl⟩,_,q1,?_⟩;simp[AO];simp only[AA 73 13];simp;simp only[AA 73 15,Th.cells,Th.cs,Th.vs,Th.ps,AH];simp;refine⟨_,_,q2 _,?_⟩;simp[AA 73 16,AA 73 18];cases B with
  |false=>
   simp[AA 73 11,hw]
  |true=>
   simp only[AA 73 19];simp[hr,hx,Rgt.V,Rgt.cs,hroom,AO];simp[AA 73 11,hw,Bn]
 ·have hk2:k=lv.length:=by omega
  subst hk2;rw[od];simp at hQ;simp[AJ];exact hQ _ _ rfl rfl rfl rfl rfl
theorem jv {I:Int→Int→Bool} (hp:pa.length≤2^40) (hI:∀a b:Int,0≤a→a <pa.length→0≤b→b <pa.length→PX 311 [.list pa,.int .i64 a,.int .i64 b] [.bool (I a b)])
  (t:Th) (ht:t.ok) (hs:t.size≤2^40) (hte:Hb t=0) (htk:t.kinds pa.length=false) (rs:List Rgt) (i:Nat) (r:Rgt) (hr:rs[i]?=some r) (hf:r.fine pa.length) (J:List Row) (Q:AExit→St→Prop)
  (hQ:Bq r=[]→∀e J,AG e 0= .v (.list pa)→AG e 1= .v (.list (rs.map Rgt.V))→AG e 5= .ref 0 0→AG e 9= .own 186 2 []→AG e 10= .v (.int .i64 i)→Q (.exit 2) ⟨e,.cells t.cells::J⟩)
  (hR:Bq r≠[]→∀e J,AG e 6= .own 186 2 []→AG e 7= .v (.int .i64 7)→Q .ret ⟨e,J⟩):
  awp Tryz.prog Ah (.loop (lG 73 1)) Q ⟨[(0,.v (.list pa)),(1,.v (.list (rs.map Rgt.V))),(5,.ref 0 0),(9,.own 186 2 []),(10,.v (.int .i64 i)),(11,.v (AH .i64 (Bq r))),(12,.v (.int .i64 0))],.cells t.cells::J⟩:=by
 obtain⟨lv,hlv⟩:∃lv,Bq r=lv:=⟨_,rfl⟩;have hlt:=λx (hx:x∈lv)=>G7 (r:=r) (i:=x) (by rw[hlv];exact hx);have h32:=hf.mean.len;rw[hlv]at hQ hR ⊢;refine As ?_;simp only[Zw,A8 73 1,AA 73 10,AH];cases lv with
 |nil=>
  have hQ:=hQ rfl;simp[AJ];exact hQ _ _ rfl rfl rfl rfl rfl
 |cons x lv=>
  obtain⟨m,rfl⟩:∃m:Nat,x=m:=⟨x.toNat,by have:=hlt x (by simp);omega⟩;have hm:=hlt _ (rG);have q1:=aC r.claims hf.mean hf.z m (by omega);have hmem:=hf.meanAt hm;have q2:=(XS hp hI (Ar r.claims m) (hf.mean.mean _ hmem).1 t ht hs).fsp;rw[hf.hld7 hm hte htk]at q2;generalize Ar r.claims m=M at*;obtain⟨mo,mn,mi,mk⟩:=M;obtain⟨tc,tv,tp⟩:=t;simp only[F.V_eq,Th.V_eq,AH]at q1 q2;simp at q2;have hpos:(0:Int) <(lv.length:Int)+1:=by omega
  simp[hpos,AD];simp only[AS,AA 73 12];simp[hr,Rgt.V,Rgt.cs];refine⟨_,_,⟨rfl,rfl⟩,_,q1,?_⟩;simp[AO];simp only[AA 73 13];simp;simp only[AA 73 15,Th.cells,Th.cs,Th.vs,Th.ps,AH];simp;refine⟨_,_,q2 _,?_⟩;simp[AA 73 16,AB,AA 73 17];exact hR (by simp) _ _ rfl rfl
theorem Ni (I:Int→Int→Bool) (t:Th) (r:Rgt):(Bt I t r).length≤r.claims.length:=by
 unfold Bt;rw[oi];exact pA (pG _ _) (Ez r)
theorem Nj (I:Int→Int→Bool) (t:Th) (rs:List Rgt) (h:∀r∈rs,r.claims.length≤32):(A5 I t rs).length≤32*rs.length:=by
 induction rs with
 |nil=>simp[A5]
 |cons r rs ih=>
  have h1:=Ni I t r;have h2:=h r (by simp);have h3:=ih λx hx=>h x (by simp[hx]);simp only[A5,oZ,oL,oj]at*;omega
theorem mt {I:Int→Int→Bool} (hp:pa.length≤2^40) (hI:∀a b:Int,0≤a→a <pa.length→0≤b→b <pa.length→PX 311 [.list pa,.int .i64 a,.int .i64 b] [.bool (I a b)])
  (t:Th) (ht:t.ok) (hs:t.size≤2^40) (rs:List Rgt) (hn:rs.length≤2^20) (hrs:∀r∈rs,r.fine pa.length):
  PX 73 [.list pa,.list (rs.map Rgt.V),t.V] [.list ((UK pa.length I t rs).map Bn),.int .i64 (Ru pa.length t rs)]:=by
 refine BJ 73 ?_;unfold UK;obtain⟨E,hE⟩:∃E,Ru pa.length t rs=E:=⟨_,rfl⟩;rw[hE];unfold Ru at hE;have q1:=(aR t ht hs).fsp;have hA:=λa b=>nZ hp hI t ht hs a b rs;have hB:=λa b=>jv hp hI t ht hs a b rs;simp only[Zw,Ai 73,AA 73 0,AA 73 1,AX];by_cases hte:Hb t=0
 ·rw[hte]at q1 hE;simp at hE;have hA:=hA hte;have hB:=hB hte;obtain⟨tc,tv,tp⟩:=t;simp only[Th.V_eq,AH]at q1;simp at q1;simp[Th.V_eq,AH];refine⟨_,_,q1 _,?_⟩;simp[AA 73 2,AD,AA 73 4,AA 73 5];cases htk:(Th.mk tc tv tp).kinds pa.length with
  |true=>
   rw[htk]at hE;simp at hE;subst hE;have hA:=hA htk;refine AY rs.length (λk s=>∃J,s=⟨[(0,.v (.list pa)),(1,.v (.list (rs.map Rgt.V))),(5,.ref 0 0),(9,.own 186 2 ((A5 I (.mk tc tv tp) (rs.take k)).map Bn)),(10,.v (.int .i64 k))],.cells (Th.mk tc tv tp).cells::J⟩) ⟨[],by simp[A5,Th.cells,Th.cs,Th.vs,Th.ps,AH]⟩ ?_;rintro k s hk ⟨J,rfl⟩;simp only[Zw,A8 73 0,AA 73 6];by_cases h1:k <rs.length
   ·obtain⟨r,hr⟩:∃r,rs[k]?=some r:=⟨_,oI h1⟩;have hrm:=oK hr;have hf:=hrs r hrm;have hw:=Bb k;have q2:=(aD r (by have:=hf.mean.len;omega) hf.bad).fsp;have hl2:=Ez r;have hml:=hf.mean.len;have htake:A5 I (.mk tc tv tp) (rs.take (k+1))=A5 I (.mk tc tv tp) (rs.take k)++Bt I (.mk tc tv tp) r:=by
     unfold A5;rw[oW,hr,pm];simp
    have hal:=Nj I (.mk tc tv tp) (rs.take k) λx hx=>(hrs x (pH hx)).mean.len;rw[ol]at hal;have hloop:=λJ Q=>hA k r hr hf (A5 I (.mk tc tv tp) (rs.take k)) (by omega) J Q;rw[htake];generalize A5 I (.mk tc tv tp) (rs.take k)=acc at*;generalize Bt I (.mk tc tv tp) r=ag at*;simp only[Rgt.V,Rgt.cs,AH]at q2 hloop;simp at q2;simp[h1,AD];simp only[AA 73 8];simp[hr,Rgt.V,Rgt.cs,AH];refine⟨_,_,q2 _,?_⟩;simp[AA 73 9];refine hloop _ _ ?_;intro e J f0 f1 f5 f9 f10;simp[AA 73 7,f0,f1,f5,f9,f10,hw]
   ·have hk2:k=rs.length:=by omega
    subst hk2;rw[od];simp[AJ,AA 73 20,AB,AW 73]
  |false=>
   rw[htk]at hE;have hB:=hB htk;refine AY rs.length (λk s=>∃J,s=⟨[(0,.v (.list pa)),(1,.v (.list (rs.map Rgt.V))),(5,.ref 0 0),(9,.own 186 2 []),(10,.v (.int .i64 k))],.cells (Th.mk tc tv tp).cells::J⟩∧∀x∈rs.take k,(Bq x).isEmpty=true) ⟨[],by simp[Th.cells,Th.cs,Th.vs,Th.ps,AH],by simp⟩ ?_;rintro k s hk ⟨J,rfl,hI2⟩;simp only[Zw,A8 73 0,AA 73 6];by_cases h1:k <rs.length
   ·obtain⟨r,hr⟩:∃r,rs[k]?=some r:=⟨_,oI h1⟩;have hrm:=oK hr;have hf:=hrs r hrm;have hw:=Bb k;have q2:=(aD r (by have:=hf.mean.len;omega) hf.bad).fsp;have hloop:=λJ Q=>hB k r hr hf J Q;have hne:Bq r≠[]→E=7:=λh=>by
     rw[←hE,if_neg];simp;exact⟨r,hrm,h⟩
    have hem:Bq r=[]→∀x∈rs.take (k+1),(Bq x).isEmpty=true:=λh x hx=>by
     rw[oW,hr]at hx;simp only[Option.toList_some,oc,oS]at hx;rcases hx with hx|rfl
     ·exact hI2 x hx
     ·rw[h];rfl
    simp only[Rgt.V,Rgt.cs,AH]at q2 hloop;simp at q2;simp[h1,AD];simp only[AA 73 8];simp[hr,Rgt.V,Rgt.cs,AH];refine⟨_,_,q2 _,?_⟩;simp[AA 73 9];refine hloop _ _ ?_ ?_
    ·intro h0 e J f0 f1 f5 f9 f10;have hem:=hem h0;simp only[List.isEmpty_iff]at hem;simp[AA 73 7,f0,f1,f5,f9,f10,hw];exact hem
    ·intro h0 e J f6 f7;simp[AW 73,f6,f7,hne h0]
   ·have hk2:k=rs.length:=by omega
    subst hk2;rw[od]at hI2;rw[if_pos (by simpa using hI2)]at hE;subst hE;have hz:A5 I (.mk tc tv tp) rs=[]:=by
     unfold A5;rw[List.flatMap_eq_nil_iff];intro x hx;unfold Bt;rw[List.isEmpty_iff.1 (hI2 x hx)];rfl
    rw[hz];simp[AJ,AA 73 20,AB,AW 73]
 ·rw[if_pos (by simpa using hte)]at hE;rw[hE]at q1;have hne:¬E=0:=by rw[←hE];exact hte
  obtain⟨tc,tv,tp⟩:=t;simp only[Th.V_eq,AH]at q1;simp at q1;simp[Th.V_eq,AH];refine⟨_,_,q1 _,?_⟩;simp[AA 73 2,hne,AA 73 3,AB,AW 73]
end
theorem Zb (f:F):PX 335 [f.V] [.list ((BG f).map F.V)]:=by
 refine BJ 335 ?_;unfold BG;obtain⟨op,n,ins,kids⟩:=f;by_cases h:op=4<;>simp[Ai 335,awp,AA 335 0,AA 335 1,AA 335 2,AA 335 3,AW 335,AX,F.V_eq,h,F.op,F.kids]
theorem ZN (f:F):f.tops.length≤f.size:=by
 induction f using F.ind with
 |h op n ins kids ih=>
  rw[F.tops_eq,F.size_eq];split
  ·rw[pY];have:∀l:List F,(∀k∈l,k.tops.length≤k.size)→(l.map λk=>k.tops.length).sum≤(l.map F.size).sum:=by
    intro l;induction l with
    |nil=>simp
    |cons x xs ihx=>intro h;have h1:=h x (by simp);have h2:=ihx λk hk=>h k (by simp[hk]);simp only[oV,qL];omega
   have:=this kids ih;omega
  ·simp
theorem ez:∀f:F,f.ok→PX 334 [f.V] [.list (f.tops.map F.V)]:=by
 refine F.ind λop n ins kids ih hok=>?_;refine BJ 334 ?_;have hsz:=hok.2;rw[F.size_eq]at hsz;have hkl:=F.kids_len kids;have htz:=ZN (.mk op n ins kids);rw[F.tops_eq,F.size_eq]at htz;rw[F.tops_eq];simp only[Zw,Ai 334,AA 334 0,AA 334 1,AX];by_cases h5:op=5
 ·subst h5;rw[if_pos rfl]at htz ⊢;simp[F.V_eq,AD,AA 334 3,AA 334 4];refine AN kids.length (λk=>⟨[(1,.ref 0 0),(3,.own 84 4 (((kids.take k).flatMap F.tops).map F.V)),(4,.v (.int .i64 k))],[.cells (F.mk 5 n ins kids).cells]⟩) (by simp[F.cells,F.op,F.n,F.ins,F.kids]) ?_;intro k hk;simp only[Zw,A8 334 0,AA 334 5,F.cells,F.op,F.n,F.ins,F.kids];by_cases h1:k <kids.length
  ·obtain⟨x,hx⟩:∃x,kids[k]?=some x:=⟨_,oI h1⟩;have hxm:=oK hx;have hw:=Bb k;have q:=(ih x hxm (F.ok_kid hok hxm)).fsp;have ht:(kids.take (k+1)).flatMap F.tops=(kids.take k).flatMap F.tops++x.tops:=by
    rw[oW,hx,pm];simp
   have hle:((kids.take (k+1)).flatMap F.tops).length≤(kids.flatMap F.tops).length:=by
    have:=congrArg (λl=>(l.flatMap F.tops).length) (pQ (k+1) kids);simp only[pm,oL]at this;omega
   rw[ht]at hle ⊢;rw[oL]at hle;generalize (kids.take k).flatMap F.tops=L at*;generalize x.tops=X at*;have hroom:AU (L.length+X.length) 64=true:=by simp[AU];omega
   have hh:BM 4 (X.map F.V)=true:=by
    cases X with
    |nil=>rfl
    |cons y ys=>obtain⟨a,b,c,d⟩:=y;simp[BM,F.V_eq]
   obtain⟨xo,xn,xi,xk⟩:=x;simp[F.V_eq]at q;simp[h1,AD];simp only[AA 334 7];simp[hx,F.V_eq];refine⟨_,_,q _,?_⟩;simp[hroom,hh];simp[AA 334 6,hw]
  ·have hk2:k=kids.length:=by omega
   subst hk2;rw[od];simp[AJ,AA 334 8,AB,AW 334]
 ·rw[if_neg h5];simp[F.V_eq,h5,AA 334 2,AB,AW 334]
theorem WV (X:List F):BM 4 (X.map F.V)=true:=by
 cases X with
 |nil=>rfl
 |cons y ys=>obtain⟨a,b,c,d⟩:=y;simp[BM,F.V_eq]
theorem bL (v0 v1 v8:V) (tops xs:List F) (a:F) (ai:Nat) (hxa:xs[ai]?=some a) (acc:List F) (hal:acc.length+tops.length≤64) (hok:∀b∈tops,(mkA a b).ok∧BR (mkA a b)=0) (J:List Row) (Q:AExit→St→Prop)
  (hQ:∀e J,AG e 0= .v v0→AG e 1= .v v1→AG e 6= .v (.list (tops.map F.V))→AG e 7= .own 84 4 ((acc++tops.map (mkA a)).map F.V)→AG e 8= .v v8→AG e 9= .v (.list (xs.map F.V))→AG e 11= .v (.int .i64 ai)→Q (.exit 4) ⟨e,J⟩):
  awp Tryz.prog Ah (.loop (lG 314 2)) Q ⟨[(0,.v v0),(1,.v v1),(6,.v (.list (tops.map F.V))),(7,.own 84 4 (acc.map F.V)),(8,.v v8),(9,.v (.list (xs.map F.V))),(11,.v (.int .i64 ai)),(12,.v (.int .i64 0))],J⟩:=by
 refine AY tops.length (λk s=>∃J,s=⟨[(0,.v v0),(1,.v v1),(6,.v (.list (tops.map F.V))),(7,.own 84 4 ((acc++(tops.take k).map (mkA a)).map F.V)),(8,.v v8),(9,.v (.list (xs.map F.V))),(11,.v (.int .i64 ai)),(12,.v (.int .i64 k))],J⟩) ⟨J,by simp⟩ ?_;rintro k s hk ⟨J,rfl⟩;simp only[Zw,A8 314 2,AA 314 15];by_cases h1:k <tops.length
 ·obtain⟨b,hb⟩:∃b,tops[k]?=some b:=⟨_,oI h1⟩;have hbm:=oK hb;have hw:=Bb k;obtain⟨o1,o2⟩:=hok b hbm;have q1:=Zb a;have q2:=Zb b;have q3:=(Ur _ o1).fsp;rw[o2]at q3;have hpl:(BG a).length+(BG b).length≤2^40:=by
   have h2:=o1.2;unfold mkA at h2;rw[F.size_eq]at h2;have h3:=F.kids_len (BG a++BG b);rw[oL]at h3;omega
  have ht:(tops.take (k+1)).map (mkA a)=(tops.take k).map (mkA a)++[mkA a b]:=by
   rw[oW,hb,oh];rfl
  have htl:((tops.take k).map (mkA a)).length≤k:=by rw[oi,ol];omega
  have hA:=WV (BG a);have hB:=WV (BG b);rw[ht];have hm:mkA a b= .mk 4 0 [] (BG a++BG b):=rfl;rw[hm]at q3 ⊢;generalize (tops.take k).map (mkA a)=L at*;generalize BG a=PA at*;generalize BG b=PB at*;have r1:AU PA.length 64=true:=by simp[AU];omega
  have r2:AU (PA.length+PB.length) 64=true:=by simp[AU];omega
  have r3:AU (acc.length+L.length+1) 64=true:=by simp[AU];omega
  obtain⟨ao,an,ai2,ak⟩:=a;obtain⟨bo,bn,bi,bk⟩:=b;simp only[F.V_eq]at q1 q2;simp[F.V_eq]at q3;simp[h1,AD];simp only[AS,AA 314 17];simp[hxa,F.V_eq];refine⟨_,_,⟨rfl,rfl⟩,_,q1,?_⟩;simp[hA,r1,hb,F.V_eq];refine⟨_,_,⟨rfl,rfl⟩,_,q2,?_⟩;simp[hB,r2,AO];simp only[AA 314 18];simp;refine⟨_,_,q3 _,?_⟩;simp;simp only[AA 314 20];simp[r3];simp[AA 314 16,hw]
 ·have hk2:k=tops.length:=by omega
  subst hk2;rw[od];simp at hQ;simp[AJ];exact hQ _ _ rfl rfl rfl rfl rfl rfl rfl
def GA (tops:List F) (a:F):List F:=tops.map (mkA a)
theorem OI (tops:List F) (l:List F):(l.flatMap (GA tops)).length=l.length*tops.length:=by
 induction l with
 |nil=>simp
 |cons x xs ih=>rw[oZ,oL,ih,oj,pT,Nat.one_mul,Nat.add_comm];simp[GA]
theorem bM (v0 v1 v8:V) (tops xs:List F) (hxl:xs.length≤64) (acc:List F) (hal:acc.length+xs.length*tops.length≤64) (hok:∀a∈xs,∀b∈tops,(mkA a b).ok∧BR (mkA a b)=0) (J:List Row) (Q:AExit→St→Prop)
  (hQ:∀e J,AG e 0= .v v0→AG e 1= .v v1→AG e 6= .v (.list (tops.map F.V))→AG e 7= .own 84 4 ((acc++xs.flatMap (GA tops)).map F.V)→AG e 8= .v v8→Q (.exit 2) ⟨e,J⟩):
  awp Tryz.prog Ah (.loop (lG 314 1)) Q ⟨[(0,.v v0),(1,.v v1),(6,.v (.list (tops.map F.V))),(7,.own 84 4 (acc.map F.V)),(8,.v v8),(9,.v (.list (xs.map F.V))),(11,.v (.int .i64 0))],J⟩:=by
 refine AY xs.length (λk s=>∃J,s=⟨[(0,.v v0),(1,.v v1),(6,.v (.list (tops.map F.V))),(7,.own 84 4 ((acc++(xs.take k).flatMap (GA tops)).map F.V)),(8,.v v8),(9,.v (.list (xs.map F.V))),(11,.v (.int .i64 k))],J⟩) ⟨J,by simp⟩ ?_;rintro k s hk ⟨J,rfl⟩;simp only[Zw,A8 314 1,AA 314 12];by_cases h1:k <xs.length
 ·obtain⟨a,ha⟩:∃a,xs[k]?=some a:=⟨_,oI h1⟩;have ham:=oK ha;have hw:=Bb k;have ht:(xs.take (k+1)).flatMap (GA tops)=(xs.take k).flatMap (GA tops)++GA tops a:=by
   rw[oW,ha,pm];simp
  have hl:=OI tops (xs.take k);rw[ol,qH hk]at hl;have hmul:(k+1)*tops.length≤xs.length*tops.length:=qV _ h1;rw[pT,Nat.one_mul]at hmul;have hloop:=λJ Q=>bL v0 v1 v8 tops xs a k ha (acc++(xs.take k).flatMap (GA tops)) (by rw[oL];omega) (hok a ham) J Q;rw[ht];generalize (xs.take k).flatMap (GA tops)=L at*;simp at hloop;simp[h1,AD,AA 314 14];refine hloop _ _ ?_;intro e J f0 f1 f6 f7 f8 f9 f11;simp[AA 314 13,f0,f1,f6,f7,f8,f9,f11,hw,GA]
 ·have hk2:k=xs.length:=by omega
  subst hk2;rw[od];simp only[oh]at hQ;simp[AJ];exact hQ _ _ rfl rfl rfl rfl rfl
theorem fL (T:List Clm) (hT:AltOK T):∀i:Nat,i <T.length→PX 314 [.list (T.map Clm.V),.int .i64 i] [.list ((Bm T i).map F.V),.bool true]:=by
 intro i;induction i using Nat.strongRecOn with
 |_ i ih=>
  intro hi;obtain⟨c,hc⟩:∃c,T[i]?=some c:=⟨_,oI hi⟩;have hcm:=oK hc;obtain⟨b1,b2,b3⟩:=hT.body c hcm;have hpre:=hT.pre i c hc;have hone:=hT.one i c hc;have hmka:=hT.mka i c hc;have hacc:∀r∈c.refs,((CA (T.take i))[r.toNat]?).getD []=Bm T r:=by
   intro r hr;have:=hT.low i c hc r hr;have hl:=Fu T;rw[JK T i (by omega),List.getElem?_take_of_lt (by omega)];rfl
  have ihr:∀r∈c.refs,PX 314 [.list (T.map Clm.V),.int .i64 r] [.list ((Bm T r).map F.V),.bool true]:=by
   intro r hr;have:=hT.low i c hc r hr;obtain⟨m,rfl⟩:∃m:Nat,r=m:=⟨r.toNat,by omega⟩;exact ih m (by omega) (by omega)
  have hat:Bm T i=if c.refs=[] then c.body.tops else c.refs.flatMap λr=>(Bm T r).flatMap (GA c.body.tops):=by
   have e:=Kn T hc T.length hi (oN _);rw[od]at e;rw[show Bm T i=((CA T)[i]?).getD [] from by unfold Bm;rw[qT],e,og];unfold ER;split
   ·rfl
   ·have:∀l:List Int,(∀r∈l,r∈c.refs)→(l.flatMap λr=>(((CA (T.take i))[r.toNat]?).getD []).flatMap λa=>c.body.tops.map λb=>mkA a b)=l.flatMap λr=>(Bm T r).flatMap (GA c.body.tops):=by
     intro l;induction l with
     |nil=>intro _;rfl
     |cons x xs ihx=>intro h;rw[oZ,oZ,ihx λr hr=>h r (by simp[hr]),hacc x (h x (by simp))];rfl
    exact this _ λr hr=>hr
  have hpre2:∀j,j≤c.refs.length→((c.refs.take j).flatMap λr=>(Bm T r).flatMap (GA c.body.tops)).length≤64:=by
   intro j hj;have:∀l:List Int,(∀r∈l,r∈c.refs)→(l.flatMap λr=>(((CA (T.take i))[r.toNat]?).getD []).flatMap λa=>c.body.tops.map (mkA a))=l.flatMap λr=>(Bm T r).flatMap (GA c.body.tops):=by
    intro l;induction l with
    |nil=>intro _;rfl
    |cons x xs ihx=>intro h;rw[oZ,oZ,ihx λr hr=>h r (by simp[hr]),hacc x (h x (by simp))];rfl
   rw[←this _ λr hr=>pH hr];exact hpre j hj
  have hone2:∀r∈c.refs,(Bm T r).length≤64:=λr hr=>by rw[←hacc r hr];exact hone r hr
  have hmka2:∀r∈c.refs,∀a∈Bm T r,∀b∈c.body.tops,(mkA a b).ok∧BR (mkA a b)=0:=λr hr a ha=>hmka r hr a (by rw[hacc r hr];exact ha);clear hpre hone hmka hacc;have q334:=(ez c.body b1).fsp;refine BJ 314 ?_;simp only[Zw,Ai 314,AA 314 0,AA 314 1,AX];obtain⟨refs,op,n,ins,kids⟩:=c;simp only[F.V_eq]at q334;simp at q334;simp only at hat ihr hone2 hmka2 hpre2 b2 b3;rw[hat];generalize (F.mk op n ins kids).tops=tops at*;simp[hc,Clm.V,AH,F.op,F.n,F.ins,F.kids];refine⟨_,_,q334 _,?_⟩;simp only[AA 314 2];simp[hc,Clm.V,AH];by_cases h0:refs=[]
  ·subst h0;simp[AA 314 3,AB,AW 314];omega
  ·simp[h0,AD,AA 314 4,AA 314 5];refine AY refs.length (λk s=>∃J,s=⟨[(0,.v (.list (T.map Clm.V))),(1,.v (.int .i64 i)),(6,.v (.list (tops.map F.V))),(7,.own 84 4 (((refs.take k).flatMap λr=>(Bm T r).flatMap (GA tops)).map F.V)),(8,.v (.int .i64 k))],J⟩) ⟨[],by simp⟩ ?_;rintro k s hk ⟨J,rfl⟩;simp only[Zw,A8 314 0,AA 314 6];simp[hc,Clm.V,AH];by_cases h1:k <refs.length
   ·obtain⟨r,hr⟩:∃r,refs[k]?=some r:=⟨_,oI h1⟩;have hrm:=oK hr;have hw:=Bb k;have q:=(ihr r hrm).fsp;have ht:((refs.take (k+1)).flatMap λr=>(Bm T r).flatMap (GA tops))=((refs.take k).flatMap λr=>(Bm T r).flatMap (GA tops))++(Bm T r).flatMap (GA tops):=by
     rw[oW,hr,pm];simp
    have hp:=hpre2 (k+1) h1;have ho:=hone2 r hrm;have hm:=hmka2 r hrm;rw[ht]at hp ⊢;generalize ((refs.take k).flatMap λr=>(Bm T r).flatMap (GA tops))=acc at*;generalize Bm T r=xs at*;rw[oL,OI]at hp;have hloop:=λJ Q=>bM (.list (T.map Clm.V)) (.int .i64 i) (.int .i64 k) tops xs ho acc hp hm J Q;obtain⟨P,hP⟩:∃P,xs.length*tops.length=P:=⟨_,rfl⟩;rw[hP]at hp;have w1:IntKind.i64.wrap ((xs.length:Int)*(tops.length:Int))=P:=by
     rw[←Int.natCast_mul,hP];exact AL
    have w2:IntKind.i64.wrap ((acc.length:Int)+(P:Int))=acc.length+P:=AL;have w3:¬(64:Int) <acc.length+P:=by omega
    simp at q;rw[if_pos h1,AD];simp only[AA 314 8];simp[hc,Clm.V,AH,hr];refine⟨_,_,q _,?_⟩;simp only[AA 314 9];simp[w1,w2,w3,AD,AA 314 11];refine hloop _ _ ?_;intro e J f0 f1 f6 f7 f8;simp[AA 314 7,f0,f1,f6,f7,f8,hw,h1]
   ·have hk2:k=refs.length:=by omega
    subst hk2;rw[if_neg h1,AJ,od];simp[AA 314 21,AB,AW 314]
theorem gL (T:List Clm) (hT:AltOK T) (hok:∀c∈T,c.ok) (hz:CD T=0) (i:Nat) (hi:i <T.length):PX 266 [.list (T.map Clm.V),.int .i64 i] [.list ((Bm T i).map F.V),.int .i64 0]:=by
 refine BJ 266 ?_;have q1:=(Zq T hok (by have:=hT.len;omega) hz i hi).fsp;have q2:=(fL T hT i hi).fsp;generalize Bm T i=M at*;simp at q1 q2;simp only[Ai 266,AE,AF,AK,AA 266 0,AA 266 1,AX];simp;refine⟨_,_,q1 _,?_⟩;simp[AA 266 2,AD];simp only[AA 266 4];simp;refine⟨_,_,q2 _,?_⟩;simp[AA 266 5];simp[AA 266 7,AB,AW 266]
section
variable {ps:List V}
theorem bY {bs:List Bool} (hps:ps.length≤64) (hbs:bs.length=4096) (h:List Row) (x:Nat) (hx:h[x]?=some (Dn ps bs)) (hl:Low h) (t:Th) (ht:t.ok) (hte:Hb t=0) (htk:t.kinds ps.length=false)
  (rs:List Rgt) (hr:∀r∈rs,r.fine ps.length) (hrl:rs.length≤2^10) (hrc:∀r∈rs,r.claims.length≤2^8)
  (KN:∀r∈rs,∀i:Int,0≤i→i <r.claims.length→PX 274 [.list (r.claims.map Clm.V),.int .i64 i] [(Ar r.claims i).V,.int .i64 0]) (Q:AExit→St→Prop)
  (hQ:(rs.all λr=>(Bq r).isEmpty)=true→∀e J',AG e 9= .own 76 2 []→Q (.exit 0) ⟨e,h++ .cells t.cells::J'⟩) (hR:(rs.all λr=>(Bq r).isEmpty)=false→∀e J',AG e 6= .own 76 2 []→AG e 7= .v (.int .i64 7)→Q .ret ⟨e,h++J'⟩):
  awp Tryz.prog Ah (.loop (lG 185 0)) Q ⟨[(0,.ref x 0),(5,.ref h.length 0),(9,.own 76 2 []),(24,.v (.list (rs.map Rgt.V))),(25,.v (.int .i64 rs.length)),(26,.v (.int .i64 (0:Nat)))],h++[.cells t.cells]⟩:=by
 refine AY rs.length (λk s=>(∀r∈rs.take k,Bq r=[])∧∃J',Lows J'∧s=⟨[(0,.ref x 0),(5,.ref h.length 0),(9,.own 76 2 []),(24,.v (.list (rs.map Rgt.V))),(25,.v (.int .i64 rs.length)),(26,.v (.int .i64 k))],
   h++ .cells t.cells::J'⟩) ⟨by simp,[],Lows.nil,rfl⟩ ?_
 rintro k s hk ⟨hall,J',hJ',rfl⟩;rw[Mi];simp only[Zw,AA 185 8];simp;by_cases hkl:k <rs.length
 ·obtain⟨r,hri⟩:∃r,rs[k]?=some r:=⟨_,oI hkl⟩;have hrm:=oK hri;have hrr:=hr r hrm;have w1:=Bb k;have htk2:Bq r=[]→∀q∈rs.take (k+1),Bq q=[]:=λh q hq=>by
   rw[oW,hri]at hq;rcases oc.1 hq with hq|hq
   ·exact hall q hq
   ·have e:q=r:=by simpa using hq
    rw[e];exact h
  have hc8:=hrc r hrm;have q1:=(Zn r (by omega) hrr.bad).fsp;have hcsl:∀n,Row.low n (.cells (r.cs.map .v))=true:=λn=>by simp only[Row.low];exact J7 _
  have hlv:=λi (hi:i∈Bq r)=>G7 hi;have hq:=KN r hrm;have hE:=λi (hi:0≤i∧i <(r.claims.length:Int))=>hrr.hld7 hi hte htk;have hmo:=λi (hi:0≤i∧i <(r.claims.length:Int))=>(hrr.mean.mean _ (hrr.meanAt hi)).1;have hgen:(Bq r).isEmpty=false→(rs.all λr=>(Bq r).isEmpty)=false:=λh=>by
   rw[List.all_eq_false];exact⟨r,hrm,by simp[h]⟩
  rw[if_pos (by omega),AD];simp only[AA 185 9];generalize hLR:Bq r=LR at*;have hJn:=hJ'.app hcsl;obtain⟨file,state,force,claims,dates,bad,owners,lics⟩:=r;simp only[Rgt.V,Rgt.cs,AH]at*;simp at q1;simp[hri,Rgt.V,Rgt.cs,AH,AO];unfold Tv;simp only[AE,AF,AM,AA 185 10];simp;refine⟨_,_,q1 _,?_⟩;simp;cases LR with
  |nil=>
   refine As ?_;simp only[A8 185 1,AE,AF,AK,AA 185 11];simp[AJ];simp[AA 185 22,w1,hkl];exact⟨htk2 rfl,by simpa using hJn⟩
  |cons i LR=>
   have hi:=hlv i (by simp);have q2:=(hq i hi.1 hi.2).fsp;have q3:=λ(Z:List Row) (hZ:Lows Z)=>gg hps hbs (Ar claims i) (hmo i hi) t ht (h++ .cells t.cells::Z) x (AV _ hx) (hl.lows (by
    intro row hrow n;rcases oO.1 hrow with rfl|hrow
    ·exact G5 n t
    ·exact hZ row hrow n))
   rw[hE i hi]at q3;generalize Ar claims i=f at*;have hlows:∀n,Row.low n (.cells f.cells)=true:=λn=>LI n f;have q3:=q3 _ (hJn.app hlows);have hR:=hR (hgen rfl);obtain⟨fo,fn,fi,fk⟩:=f;obtain⟨cs,vs,pa⟩:=t;simp only[F.cells,F.op,F.n,F.ins,F.kids,F.V_eq,Th.cells,Th.cs,Th.vs,Th.ps,Th.V_eq,AH]at*;simp at q2 q3;refine As ?_;simp only[Zw,A8 185 1,AA 185 11];simp[AD];simp only[AA 185 12];simp;simp only[AA 185 13];simp;refine⟨_,_,q2 _,?_⟩;simp[AO,AA 185 14];simp only[AA 185 16];simp;refine⟨_,_,q3,?_⟩;simp[AA 185 17,AA 185 18,AB];exact hR _ _ rfl rfl
 ·have hk2:k=rs.length:=by omega
  subst hk2;rw[if_neg (by omega),AJ];rw[od]at hall;exact hQ (oY.2 λr hr=>by rw[hall r hr];rfl) _ _ rfl
theorem Z6 {bs:List Bool} (hps:ps.length≤64) (hbs:bs.length=4096) (h:List Row) (x:Nat) (hx:h[x]?=some (Dn ps bs)) (hl:Low h) (t:Th) (ht:t.ok)
  (rs:List Rgt) (hr:∀r∈rs,r.fine ps.length) (hrl:rs.length≤2^10) (hrc:∀r∈rs,r.claims.length≤2^8)
  (KN:∀r∈rs,∀i:Int,0≤i→i <r.claims.length→PX 274 [.list (r.claims.map Clm.V),.int .i64 i] [(Ar r.claims i).V,.int .i64 0]):
  FX 185 [.ref x 0,.v (.list (rs.map Rgt.V)),.v t.V] h [.own 76 2 ((UK ps.length (CO ps.length bs) t rs).map Bn),.v (.int .i64 (Ru ps.length t rs))] h:=by
 by_cases hte:Hb t=0
 ·by_cases htk:t.kinds ps.length=true
  ·have e:Ru ps.length t rs=0:=by unfold Ru;simp[hte,htk]
   unfold UK;rw[e,if_pos rfl];exact iu hps hbs h x hx hl t ht hte htk rs hr hrl hrc KN
  ·have htk:t.kinds ps.length=false:=by simpa using htk
   have e1:Ru ps.length t rs=if (rs.all λr=>(Bq r).isEmpty)=true then 0 else 7:=by unfold Ru;simp[hte,htk]
   have e2:UK ps.length (CO ps.length bs) t rs=[]:=by
    unfold UK;rw[e1];split
    ·rename_i h1;have h2:(rs.all λr=>(Bq r).isEmpty)=true:=by simpa using h1
     rw[if_pos rfl];unfold A5;rw[List.flatMap_eq_nil_iff];intro r hr;have:=oY.1 h2 r hr;unfold Bt;rw[List.isEmpty_iff.1 this];rfl
    ·rfl
   rw[e1,e2];refine Ak (D4 185) rfl (oN _) hl (by simp[D.lt]) ?_;have q67:=(dN t ht).fsp;rw[hte]at q67;have hloop:=λQ=>bY hps hbs h x hx hl t ht hte htk rs hr hrl hrc KN Q;generalize (rs.all λr=>(Bq r).isEmpty)=A at*;have hth:t.V= .agg [AH .i64 t.cs,.list (t.vs.map Val.V),.list (t.ps.map Th.V)]:=by obtain⟨a,b,c⟩:=t;exact Th.V_eq ..
   rw[hth]at q67 ⊢;simp only[Th.cells]at hloop;simp[AH]at q67 hloop;simp only[Zw,Ai 185,AA 185 0,AA 185 1,AQ];simp[AH,AD,AA 185 3];refine⟨_,_,q67 _,?_⟩;simp[AA 185 4,AA 185 6,AA 185 7];refine hloop _ ?_ ?_
   ·rintro rfl e J g9;simp[AA 185 23,g9,AB,AW 185]
   ·rintro rfl e J g6 g7;simp[AW 185,g6,g7]
 ·have e1:Ru ps.length t rs=Hb t:=by unfold Ru;simp[hte]
  have e2:UK ps.length (CO ps.length bs) t rs=[]:=by unfold UK;rw[e1,if_neg hte]
  rw[e1,e2];refine Ak (D4 185) rfl (oN _) hl (by simp[D.lt]) ?_;have q67:=(dN t ht).fsp;generalize Hb t=E at*;have hth:t.V= .agg [AH .i64 t.cs,.list (t.vs.map Val.V),.list (t.ps.map Th.V)]:=by obtain⟨a,b,c⟩:=t;exact Th.V_eq ..
  rw[hth]at q67 ⊢;simp[AH]at q67;simp only[Zw,Ai 185,AA 185 0,AA 185 1,AQ];simp[AH,AD,AA 185 3];refine⟨_,_,q67 _,?_⟩;simp[hte,AA 185 4,AA 185 5,AB,AW 185]
end
end Go.Va
