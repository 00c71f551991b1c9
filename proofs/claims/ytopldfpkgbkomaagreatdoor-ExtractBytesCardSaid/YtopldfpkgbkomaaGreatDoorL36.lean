/- Laws that ExtractBytes leans on, part 36. No condition of its own. -/
import Derived.Test.YtopldfpkgbkomaaGreatDoorL32
set_option linter.all false
set_option maxRecDepth 100000
set_option maxHeartbeats 4000000
noncomputable section
namespace Go.Va
open Go.Proofs
section
variable {i:Nat}
theorem Ss {T:List Clm} (hT:MeanOK T) {c:Clm} (hc:T[i]?=some c):BY T i=if c.refs=[] then c.body else .mk 4 0 [] [c.body,.mk 5 0 [] (c.refs.map (BY T))]:=by
 obtain⟨hi,_⟩:=qK.1 hc;have h1:=Il T hc;have h2:=GO T (i+1) (by omega);have h3:=GO T i (by omega);have hl:=Ea T;have e:(Bq T)[i]?=some (E6 (Bq (T.take i)) c):=by
  have:((Bq T).take (i+1))[i]?=(Bq T)[i]?:=List.getElem?_take_of_lt (by omega);have hn:((Bq T).take i).length=i:=by rw[qv];omega
  rw[←this,←h2,h1,h3,ql (by omega),hn,tX];rfl
 unfold BY;rw[qt,e,qd];unfold E6;split
 ·rfl
 ·congr 3
  refine congrArg _ (uM λr hr=>?_);have:=hT.low i c hc r hr;rw[h3,List.getElem?_take_of_lt (by omega),qH (by omega)];rfl
theorem dX (l:List Clm) (hl:∀c∈l,c.ok) (hn:l.length≤2^40) (hz:CV l=0) (i:Nat) (hi:i <l.length):PX 261 [.list (l.map Clm.V),.int .i64 i] [.int .i64 0]:=by
 refine BU 261 ?_;have q:=(Zm l hl hn).fsp;rw[hz]at q;simp at q;have h1:¬(i:Int) <0:=by omega
 have h2:¬(l.length:Int)≤i:=by omega
 simp only[At 261,AE,AG,AL,AA 261 0,AA 261 1,AV];simp;refine⟨_,_,q _,?_⟩;simp[AA 261 2,AB,AA 261 4,h1,h2];simp[AA 261 6,AD,AX 261]
theorem mu (T:List Clm) (hT:MeanOK T) (i:Nat) (c:Clm) (hc:T[i]?=some c) (R4:Row) (ih:∀r∈c.refs,PX 262 [.list (T.map Clm.V),.int .i64 r] [(BY T r).V,.bool true]) (Q:AExit→St→Prop)
  (hQ:∀e J,AF e 0= .v (.list (T.map Clm.V))→AF e 1= .v (.int .i64 i)→AF e 4= .ref 0 0→AF e 6= .ref 1 0→Q (.exit 0) ⟨e,R4::rB 5 0 [] (c.refs.map (BY T))::J⟩):
  awp Tryz.prog An (.loop (lG 262 0)) Q ⟨[(0,.v (.list (T.map Clm.V))),(1,.v (.int .i64 i)),(4,.ref 0 0),(6,.ref 1 0),(7,.v (.int .i64 0))],[R4,rB 5 0 [] []]⟩:=by
 have hlr:=hT.refs c (qJ hc);refine Al c.refs.length (λk s=>∃J,s=⟨[(0,.v (.list (T.map Clm.V))),(1,.v (.int .i64 i)),(4,.ref 0 0),(6,.ref 1 0),(7,.v (.int .i64 k))],R4::rB 5 0 [] ((c.refs.map (BY T)).take k)::J⟩) ⟨[],by simp⟩ ?_;rintro k s hk ⟨J,rfl⟩;simp only[Zw,BA 262 0,AA 262 5,rB];simp[hc,Clm.V,AH];by_cases h1:k <c.refs.length
 ·obtain⟨r,hr⟩:∃r,c.refs[k]?=some r:=⟨_,qH h1⟩;have hw:=Bo k;have q:=(ih r (qJ hr)).fsp;have hroom:AK (k+1) 64=true:=by simp[AK];omega
  have hm:min k c.refs.length=k:=by omega
  have e:(c.refs.map (F.V ∘ BY T)).take (k+1)=(c.refs.map (F.V ∘ BY T)).take k++[(BY T r).V]:=by
   rw[qc,qZ,hr];rfl
  rw[if_pos (by omega),AB];simp only[AA 262 7];generalize BY T r=M at*;obtain⟨mo,mn,mi,mk⟩:=M;simp[F.V_eq]at q;simp[hc,Clm.V,AH,hr];refine⟨_,_,q _,?_⟩;simp[AS,AA 262 8,AB];simp only[AA 262 10];simp[hm,hroom];simp[AA 262 6,hw,h1,e,F.V_eq]
 ·have hk2:k=c.refs.length:=by omega
  subst hk2;rw[if_neg (by omega),AJ];have:=hQ;simp[rB]at this;have ee:(c.refs.map (F.V ∘ BY T)).take c.refs.length=c.refs.map (F.V ∘ BY T):=qw (by simp);rw[ee];exact this _ _ rfl rfl rfl rfl
theorem kJ (T:List Clm) (hT:MeanOK T):∀i:Nat,i <T.length→PX 262 [.list (T.map Clm.V),.int .i64 i] [(BY T i).V,.bool true]:=by
 intro i;induction i using Nat.strongRecOn with
 |_ i ih=>
  intro hi;obtain⟨c,hc⟩:∃c,T[i]?=some c:=⟨_,qH hi⟩;have hm:=Ss hT hc;have hmem:BY T i∈Bq T:=by
   unfold BY;have:=Ea T;rw[qt,qH (by omega)];exact rl _
  have hok:=hT.mean _ hmem;have ihr:∀r∈c.refs,PX 262 [.list (T.map Clm.V),.int .i64 r] [(BY T r).V,.bool true]:=by
   intro r hr;have:=hT.low i c hc r hr;obtain⟨m,rfl⟩:∃m:Nat,r=m:=⟨r.toNat,by omega⟩;exact ih m (by omega) (by omega)
  have hloop:=λR4 Q=>mu T hT i c hc R4 ihr Q;have q214:=Wp _ hok.1;rw[hok.2]at q214;refine BU 262 ?_;simp only[Zw,At 262,AA 262 0,AA 262 1,AV];by_cases h0:c.refs=[]
  ·rw[if_pos h0]at hm;rw[hm];obtain⟨refs,op,n,ins,kids⟩:=c;simp only at h0;subst h0;simp[hc,Clm.V,AH];simp[AA 262 2,AD,AX 262,hc,Clm.V,F.V_eq,AS,F.op,F.n,F.ins,F.kids,D.vs?,D.v?]
  ·rw[if_neg h0]at hm;rw[hm]at q214 ⊢;generalize c.refs.map (BY T)=M at*;simp[hc,Clm.V,AH,h0,AB,AA 262 3,AS,AA 262 4];simp only[rB]at hloop;simp at hloop;refine hloop _ _ ?_;intro e J f0 f1 f4 f6;refine⟨rfl,?_⟩;obtain⟨refs,op,n,ins,kids⟩:=c;simp only[F.V_eq,qR,rW]at q214;simp only[AW,AA 262 11];simp[f0,f1,f4,f6,hc,Clm.V,AH,AS,F.op,F.n,F.ins,F.kids];simp only[AA 262 12];simp;refine⟨_,_,⟨rfl,rfl⟩,_,q214,?_⟩;simp[AS,AD,AX 262,F.V_eq,D.vs?,D.v?]
theorem dy (T:List Clm) (hT:MeanOK T) (hz:CV T=0) (i:Nat) (hi:i <T.length):PX 163 [.list (T.map Clm.V),.int .i64 i] [(BY T i).V,.int .i64 0]:=by
 refine BU 163 ?_;have q1:=(dX T hT.ok (by have:=hT.len;omega) hz i hi).fsp;have q2:=(kJ T hT i hi).fsp;generalize BY T i=M at*;obtain⟨op,n,ins,kids⟩:=M;simp[F.V_eq]at q1 q2;simp only[At 163,AE,AG,AL,AA 163 0,AA 163 1,AV,F.V_eq];simp;refine⟨_,_,q1 _,?_⟩;simp[AA 163 2,AB];simp only[AA 163 4];simp;refine⟨_,_,q2 _,?_⟩;simp[AS,AA 163 5];simp[AA 163 7,AS,AD,AX 163,D.vs?,D.v?]
end
theorem kM (l:List Int) (hl:l.length≤2^40) (n:Int):PX 260 [AH .i64 l,.int .i64 n] [.bool (l.any λx=>n==x)]:=by
 refine BU 260 ?_;obtain⟨R,hR⟩:∃R,(l.any λx=>n==x)=R:=⟨_,rfl⟩;rw[hR];simp only[At 260,AE,AG,AU,AA 260 0,AA 260 1,AV,AH];simp;refine Ao l.length (λk=>⟨[(0,.v (.list (l.map (.int .i64)))),(1,.v (.int .i64 n)),(5,.v (.int .i64 k))],[]⟩) (λk=>∀x∈l.take k,(n==x)=false) (by simp) (by simp) ?_;intro k hk hI;simp only[Zw,BA 260 0,AA 260 2];simp;by_cases h1:k <l.length
 ·obtain⟨x,hx⟩:∃x,l[k]?=some x:=⟨_,qH h1⟩;have hxm:=qJ hx;have hw:=Bo k;rw[if_pos (by omega),AB];simp only[AA 260 4];simp[hx];by_cases c1:x=n
  ·have:R=true:=by rw[←hR,sT];exact⟨x,hxm,by simp[c1]⟩
   simp[c1,AD,AA 260 5,AX 260,this]
  ·have bad:=H7 (p:=λx=>n==x) hx hI (by simpa using λh=>c1 h.symm);simp[c1,AB,AA 260 3,hw,h1];simpa using bad
 ·have hk2:k=l.length:=by omega
  subst hk2;rw[if_neg (by omega),AJ];have:R=false:=by rw[←hR,sD];simpa using hI
  simp[AD,AA 260 6,AX 260,this]
theorem dz (r:Rgt) (h1:r.claims.length≤2^30) (h2:r.bad.length≤2^40):PX 162 [r.V] [AH .i64 (D4 r)]:=by
 refine BU 162 ?_;unfold D4;obtain⟨file,state,force,claims,dates,bad,owners,lics⟩:=r;simp only at h1 h2 ⊢;simp only[At 162,AE,AG,AU,AA 162 0,AA 162 1,AA 162 2,AV];simp[Rgt.V,Rgt.cs,AH];by_cases hf:force=0
 ·subst hf;simp;refine AM claims.length (λk=>⟨[(1,.ref 0 0),(3,.own 3 1 ((((List.range k).map λ(i:Nat)=>(i:Int)).filter λi=> !(bad.any λx=>i==x)).map (.int .i64))),(4,.v (.int .i64 k))],
   [.cells ((Rgt.cs ⟨file,state,0,claims,dates,bad,owners,lics⟩).map .v)]⟩) (by simp[Rgt.cs,AH]) ?_
  intro k hk;simp only[Zw,BA 162 0,AA 162 3];by_cases hlt:k <claims.length
  ·have hw:=Bo k;have q:=(kM bad h2 k).fsp;have hltI:(k:Int) <claims.length:=by omega
   have hlen:(((List.range k).map λ(i:Nat)=>(i:Int)).filter λi=> !(bad.any λx=>i==x)).length≤k:=by
    have:=rT (λi=> !(bad.any λx=>i==x)) ((List.range k).map λ(i:Nat)=>(i:Int));simpa using this
   have hs:(((List.range (k+1)).map λ(i:Nat)=>(i:Int)).filter λi=> !(bad.any λx=>i==x))=(((List.range k).map λ(i:Nat)=>(i:Int)).filter λi=> !(bad.any λx=>i==x))++(if (bad.any λx=>(k:Int)==x) then [] else [(k:Int)]):=by
    rw[sG,qh,su]
    congr 1
    simp only[qR,rW,uA,uO];cases (bad.any λx=>(k:Int)==x)<;>rfl
   rw[hs];generalize (((List.range k).map λ(i:Nat)=>(i:Int)).filter λi=> !(bad.any λx=>i==x))=L at*;generalize (bad.any λx=>(k:Int)==x)=B at*;have hroom:AK (L.length+1) 8=true:=by simp[AK];omega
   simp[AH]at q;simp[Rgt.cs,AH,hltI,AB];simp only[AA 162 5];simp;refine⟨_,_,q _,?_⟩;simp only[AA 162 6];cases B with
   |true=>simp[AA 162 4,hw,hlt]
   |false=>simp[AA 162 7,hroom,AA 162 4,hw,hlt]
  ·have hk2:k=claims.length:=by omega
   subst hk2;simp[Rgt.cs,AH,AJ];simp[AD,AA 162 8,AX 162]
 ·simp[hf];refine Aa ?_;simp only[Zw,BA 162 0,AA 162 3];have hf':(force==0)=false:=by simpa using hf
  by_cases h0:0 <claims.length
  ·simp[h0,hf',AJ,AD,AA 162 8,AX 162]
  ·simp[h0,AJ,AD,AA 162 8,AX 162]
section
def cD (nc:Int) (t:Th) (rs:List Rgt):Int:=if F5 t≠0 then F5 t else if t.kinds nc||rs.all (λr=>(D4 r).isEmpty) then 0 else 7
def iL (nc:Int) (I:Int→Int→Bool) (t:Th) (rs:List Rgt):List (Int×Int):=if cD nc t rs=0 then CF I t rs else []
variable {nc:Int}
theorem Rgt.fine.hld7 {r:Rgt} (h:r.fine nc) {i:Int} (hi:0≤i∧i <r.claims.length) {t:Th} (ht:F5 t=0) (hk:t.kinds nc=false):Lr nc (Go.Va.BY r.claims i) t=7:=by
 have hm:=h.meanAt hi;unfold Lr;rw[(h.mean.mean _ hm).2,ht,hk];simp
variable {pa:List V}
theorem po {I:Int→Int→Bool} (hp:pa.length≤2^40) (hI:∀a b:Int,0≤a→a <pa.length→0≤b→b <pa.length→PX 311 [.list pa,.int .i64 a,.int .i64 b] [.bool (I a b)])
  (t:Th) (ht:t.ok) (hs:t.size≤2^40) (hte:F5 t=0) (htk:t.kinds pa.length=true) (rs:List Rgt) (i:Nat) (r:Rgt) (hr:rs[i]?=some r) (hf:r.fine pa.length) (acc:List (Int×Int)) (hacc:acc.length+(D4 r).length≤2^40) (J:List Row) (Q:AExit→St→Prop)
  (hQ:∀e J,AF e 0= .v (.list pa)→AF e 1= .v (.list (rs.map Rgt.V))→AF e 5= .ref 0 0→AF e 9= .own 186 2 ((acc++DB I t r).map Bh)→AF e 10= .v (.int .i64 i)→Q (.exit 2) ⟨e,.cells t.cells::J⟩):
  awp Tryz.prog An (.loop (lG 73 1)) Q ⟨[(0,.v (.list pa)),(1,.v (.list (rs.map Rgt.V))),(5,.ref 0 0),(9,.own 186 2 (acc.map Bh)),(10,.v (.int .i64 i)),(11,.v (AH .i64 (D4 r))),(12,.v (.int .i64 0))],.cells t.cells::J⟩:=by
 obtain⟨lv,hlv⟩:∃lv,D4 r=lv:=⟨_,rfl⟩;have hag:DB I t r=(lv.filter λx=>(BY r.claims x).hold I t).map λx=>(r.file,x):=by unfold DB;rw[hlv]
 rw[hag]at hQ;have hlt:=λx (hx:x∈lv)=>Lm (r:=r) (i:=x) (by rw[hlv];exact hx);have hlen:lv.length≤r.claims.length:=by rw[←hlv];exact IM r
 have h32:=hf.mean.len;rw[hlv]at hacc ⊢;refine Al lv.length (λk s=>∃J,s=⟨[(0,.v (.list pa)),(1,.v (.list (rs.map Rgt.V))),(5,.ref 0 0),(9,.own 186 2 ((acc++((lv.take k).filter λx=>(BY r.claims x).hold I t).map λx=>(r.file,x)).map Bh)),(10,.v (.int .i64 i)),(11,.v (AH .i64 lv)),(12,.v (.int .i64 k))],.cells t.cells::J⟩) ⟨J,by simp⟩ ?_;rintro k s hk ⟨J,rfl⟩;simp only[Zw,BA 73 1,AA 73 10,AH];by_cases h1:k <lv.length
 ·obtain⟨x,hx⟩:∃x,lv[k]?=some x:=⟨_,qH h1⟩;have hxm:=qJ hx;have hw:=Bo k;obtain⟨m,rfl⟩:∃m:Nat,x=m:=⟨x.toNat,by have:=hlt x hxm;omega⟩;have hm:=hlt _ hxm;have q1:=dy r.claims hf.mean hf.z m (by omega);have hmem:=hf.meanAt hm;have q2:=(Zj hp hI (BY r.claims m) (hf.mean.mean _ hmem).1 t ht hs).fsp;rw[hf.hld hm hte htk]at q2;have htake:(lv.take (k+1)).filter (λx=>(BY r.claims x).hold I t)=(lv.take k).filter (λx=>(BY r.claims x).hold I t)++(if (BY r.claims m).hold I t then [(m:Int)] else []):=by
   rw[qc,hx,su]
   congr 1
   simp only[Option.toList_some,uA,uO]
  have hfl:((lv.take k).filter λx=>(BY r.claims x).hold I t).length≤k:=by
   have:=rT (λx=>(BY r.claims x).hold I t) (lv.take k);rw[qv]at this;omega
  rw[htake];generalize (lv.take k).filter (λx=>(BY r.claims x).hold I t)=FL at*;generalize (BY r.claims m).hold I t=B at*;generalize BY r.claims m=M at*;have hroom:AK (acc.length+FL.length+1) 16=true:=by simp[AK];omega
  obtain⟨mo,mn,mi,mk⟩:=M;obtain⟨tc,tv,tp⟩:=t;simp only[F.V_eq,Th.V_eq,AH]at q1 q2;simp at q2;simp[h1,AB];simp only[AW,AA 73 12];simp[hr,hx,Rgt.V,Rgt.cs];refine⟨_,_,⟨rfl,rfl⟩,_,q1,?_⟩;simp[AS];simp only[AA 73 13];simp;simp only[AA 73 15,Th.cells,Th.cs,Th.vs,Th.ps,AH];simp;refine⟨_,_,q2 _,?_⟩;simp[AA 73 16,AA 73 18];cases B with
  |false=>
   simp[AA 73 11,hw]
  |true=>
   simp only[AA 73 19];simp[hr,hx,Rgt.V,Rgt.cs,hroom,AS];simp[AA 73 11,hw,Bh]
 ·have hk2:k=lv.length:=by omega
  subst hk2;rw[qm];simp at hQ;simp[AJ];exact hQ _ _ rfl rfl rfl rfl rfl
theorem mW {I:Int→Int→Bool} (hp:pa.length≤2^40) (hI:∀a b:Int,0≤a→a <pa.length→0≤b→b <pa.length→PX 311 [.list pa,.int .i64 a,.int .i64 b] [.bool (I a b)])
  (t:Th) (ht:t.ok) (hs:t.size≤2^40) (hte:F5 t=0) (htk:t.kinds pa.length=false) (rs:List Rgt) (i:Nat) (r:Rgt) (hr:rs[i]?=some r) (hf:r.fine pa.length) (J:List Row) (Q:AExit→St→Prop)
  (hQ:D4 r=[]→∀e J,AF e 0= .v (.list pa)→AF e 1= .v (.list (rs.map Rgt.V))→AF e 5= .ref 0 0→AF e 9= .own 186 2 []→AF e 10= .v (.int .i64 i)→Q (.exit 2) ⟨e,.cells t.cells::J⟩)
  (hR:D4 r≠[]→∀e J,AF e 6= .own 186 2 []→AF e 7= .v (.int .i64 7)→Q .ret ⟨e,J⟩):
  awp Tryz.prog An (.loop (lG 73 1)) Q ⟨[(0,.v (.list pa)),(1,.v (.list (rs.map Rgt.V))),(5,.ref 0 0),(9,.own 186 2 []),(10,.v (.int .i64 i)),(11,.v (AH .i64 (D4 r))),(12,.v (.int .i64 0))],.cells t.cells::J⟩:=by
 obtain⟨lv,hlv⟩:∃lv,D4 r=lv:=⟨_,rfl⟩;have hlt:=λx (hx:x∈lv)=>Lm (r:=r) (i:=x) (by rw[hlv];exact hx);have h32:=hf.mean.len;rw[hlv]at hQ hR ⊢;refine Aa ?_;simp only[Zw,BA 73 1,AA 73 10,AH];cases lv with
 |nil=>
  have hQ:=hQ rfl;simp[AJ];exact hQ _ _ rfl rfl rfl rfl rfl
 |cons x lv=>
  obtain⟨m,rfl⟩:∃m:Nat,x=m:=⟨x.toNat,by have:=hlt x (by simp);omega⟩;have hm:=hlt _ (tG);have q1:=dy r.claims hf.mean hf.z m (by omega);have hmem:=hf.meanAt hm;have q2:=(Zj hp hI (BY r.claims m) (hf.mean.mean _ hmem).1 t ht hs).fsp;rw[hf.hld7 hm hte htk]at q2;generalize BY r.claims m=M at*;obtain⟨mo,mn,mi,mk⟩:=M;obtain⟨tc,tv,tp⟩:=t;simp only[F.V_eq,Th.V_eq,AH]at q1 q2;simp at q2;have hpos:(0:Int) <(lv.length:Int)+1:=by omega
  simp[hpos,AB];simp only[AW,AA 73 12];simp[hr,Rgt.V,Rgt.cs];refine⟨_,_,⟨rfl,rfl⟩,_,q1,?_⟩;simp[AS];simp only[AA 73 13];simp;simp only[AA 73 15,Th.cells,Th.cs,Th.vs,Th.ps,AH];simp;refine⟨_,_,q2 _,?_⟩;simp[AA 73 16,AD,AA 73 17];exact hR (by simp) _ _ rfl rfl
theorem OP (I:Int→Int→Bool) (t:Th) (r:Rgt):(DB I t r).length≤r.claims.length:=by
 unfold DB;rw[qr];exact qo (rT _ _) (IM r)
theorem OQ (I:Int→Int→Bool) (t:Th) (rs:List Rgt) (h:∀r∈rs,r.claims.length≤32):(CF I t rs).length≤32*rs.length:=by
 induction rs with
 |nil=>simp[CF]
 |cons r rs ih=>
  have h1:=OP I t r;have h2:=h r (by simp);have h3:=ih λx hx=>h x (by simp[hx]);simp only[CF,qN,qG,qT]at*;omega
theorem pG {I:Int→Int→Bool} (hp:pa.length≤2^40) (hI:∀a b:Int,0≤a→a <pa.length→0≤b→b <pa.length→PX 311 [.list pa,.int .i64 a,.int .i64 b] [.bool (I a b)])
  (t:Th) (ht:t.ok) (hs:t.size≤2^40) (rs:List Rgt) (hn:rs.length≤2^20) (hrs:∀r∈rs,r.fine pa.length):
  PX 73 [.list pa,.list (rs.map Rgt.V),t.V] [.list ((iL pa.length I t rs).map Bh),.int .i64 (cD pa.length t rs)]:=by
 refine BU 73 ?_;unfold iL;obtain⟨E,hE⟩:∃E,cD pa.length t rs=E:=⟨_,rfl⟩;rw[hE];unfold cD at hE;have q1:=(Zo t ht hs).fsp;have hA:=λa b=>po hp hI t ht hs a b rs;have hB:=λa b=>mW hp hI t ht hs a b rs;simp only[Zw,At 73,AA 73 0,AA 73 1,AV];by_cases hte:F5 t=0
 ·rw[hte]at q1 hE;simp at hE;have hA:=hA hte;have hB:=hB hte;obtain⟨tc,tv,tp⟩:=t;simp only[Th.V_eq,AH]at q1;simp at q1;simp[Th.V_eq,AH];refine⟨_,_,q1 _,?_⟩;simp[AA 73 2,AB,AA 73 4,AA 73 5];cases htk:(Th.mk tc tv tp).kinds pa.length with
  |true=>
   rw[htk]at hE;simp at hE;subst hE;have hA:=hA htk;refine Al rs.length (λk s=>∃J,s=⟨[(0,.v (.list pa)),(1,.v (.list (rs.map Rgt.V))),(5,.ref 0 0),(9,.own 186 2 ((CF I (.mk tc tv tp) (rs.take k)).map Bh)),(10,.v (.int .i64 k))],.cells (Th.mk tc tv tp).cells::J⟩) ⟨[],by simp[CF,Th.cells,Th.cs,Th.vs,Th.ps,AH]⟩ ?_;rintro k s hk ⟨J,rfl⟩;simp only[Zw,BA 73 0,AA 73 6];by_cases h1:k <rs.length
   ·obtain⟨r,hr⟩:∃r,rs[k]?=some r:=⟨_,qH h1⟩;have hrm:=qJ hr;have hf:=hrs r hrm;have hw:=Bo k;have q2:=(dz r (by have:=hf.mean.len;omega) hf.bad).fsp;have hl2:=IM r;have hml:=hf.mean.len;have htake:CF I (.mk tc tv tp) (rs.take (k+1))=CF I (.mk tc tv tp) (rs.take k)++DB I (.mk tc tv tp) r:=by
     unfold CF;rw[qc,hr,rP];simp
    have hal:=OQ I (.mk tc tv tp) (rs.take k) λx hx=>(hrs x (rK hx)).mean.len;rw[qv]at hal;have hloop:=λJ Q=>hA k r hr hf (CF I (.mk tc tv tp) (rs.take k)) (by omega) J Q;rw[htake];generalize CF I (.mk tc tv tp) (rs.take k)=acc at*;generalize DB I (.mk tc tv tp) r=ag at*;simp only[Rgt.V,Rgt.cs,AH]at q2 hloop;simp at q2;simp[h1,AB];simp only[AA 73 8];simp[hr,Rgt.V,Rgt.cs,AH];refine⟨_,_,q2 _,?_⟩;simp[AA 73 9];refine hloop _ _ ?_;intro e J f0 f1 f5 f9 f10;simp[AA 73 7,f0,f1,f5,f9,f10,hw]
   ·have hk2:k=rs.length:=by omega
    subst hk2;rw[qm];simp[AJ,AA 73 20,AD,AX 73]
  |false=>
   rw[htk]at hE;have hB:=hB htk;refine Al rs.length (λk s=>∃J,s=⟨[(0,.v (.list pa)),(1,.v (.list (rs.map Rgt.V))),(5,.ref 0 0),(9,.own 186 2 []),(10,.v (.int .i64 k))],.cells (Th.mk tc tv tp).cells::J⟩∧∀x∈rs.take k,(D4 x).isEmpty=true) ⟨[],by simp[Th.cells,Th.cs,Th.vs,Th.ps,AH],by simp⟩ ?_;rintro k s hk ⟨J,rfl,hI2⟩;simp only[Zw,BA 73 0,AA 73 6];by_cases h1:k <rs.length
   ·obtain⟨r,hr⟩:∃r,rs[k]?=some r:=⟨_,qH h1⟩;have hrm:=qJ hr;have hf:=hrs r hrm;have hw:=Bo k;have q2:=(dz r (by have:=hf.mean.len;omega) hf.bad).fsp;have hloop:=λJ Q=>hB k r hr hf J Q;have hne:D4 r≠[]→E=7:=λh=>by
     rw[←hE,if_neg];simp;exact⟨r,hrm,h⟩
    have hem:D4 r=[]→∀x∈rs.take (k+1),(D4 x).isEmpty=true:=λh x hx=>by
     rw[qc,hr]at hx;simp only[Option.toList_some,qW,qO]at hx;rcases hx with hx|rfl
     ·exact hI2 x hx
     ·rw[h];rfl
    simp only[Rgt.V,Rgt.cs,AH]at q2 hloop;simp at q2;simp[h1,AB];simp only[AA 73 8];simp[hr,Rgt.V,Rgt.cs,AH];refine⟨_,_,q2 _,?_⟩;simp[AA 73 9];refine hloop _ _ ?_ ?_
    ·intro h0 e J f0 f1 f5 f9 f10;have hem:=hem h0;simp only[List.isEmpty_iff]at hem;simp[AA 73 7,f0,f1,f5,f9,f10,hw];exact hem
    ·intro h0 e J f6 f7;simp[AX 73,f6,f7,hne h0]
   ·have hk2:k=rs.length:=by omega
    subst hk2;rw[qm]at hI2;rw[if_pos (by simpa using hI2)]at hE;subst hE;have hz:CF I (.mk tc tv tp) rs=[]:=by
     unfold CF;rw[List.flatMap_eq_nil_iff];intro x hx;unfold DB;rw[List.isEmpty_iff.1 (hI2 x hx)];rfl
    rw[hz];simp[AJ,AA 73 20,AD,AX 73]
 ·rw[if_pos (by simpa using hte)]at hE;rw[hE]at q1;have hne:¬E=0:=by rw[←hE];exact hte
  obtain⟨tc,tv,tp⟩:=t;simp only[Th.V_eq,AH]at q1;simp at q1;simp[Th.V_eq,AH];refine⟨_,_,q1 _,?_⟩;simp[AA 73 2,hne,AA 73 3,AD,AX 73]
end
end Go.Va
