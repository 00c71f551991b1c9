/- Laws that ExtractBytes leans on, part 38. No condition of its own. -/
import Derived.Test.YtopldfpkgbkomaaGreatDoorL33
import Derived.Test.YtopldfpkgbkomaaGreatDoorL34
import Derived.Test.YtopldfpkgbkomaaGreatDoorL36
set_option linter.all false
set_option maxRecDepth 100000
set_option maxHeartbeats 4000000
noncomputable section
namespace Go.Va
open Go.Proofs
theorem dJ (f:F):PX 335 [f.V] [.list ((CJ f).map F.V)]:=by
 refine BU 335 ?_;unfold CJ;obtain⟨op,n,ins,kids⟩:=f;by_cases h:op=4<;>simp[At 335,awp,AA 335 0,AA 335 1,AA 335 2,AA 335 3,AX 335,AV,F.V_eq,h,F.op,F.kids]
theorem cq (f:F):f.tops.length≤f.size:=by
 induction f using F.ind with
 |h op n ins kids ih=>
  rw[F.tops_eq,F.size_eq];split
  ·rw[qU];have:∀l:List F,(∀k∈l,k.tops.length≤k.size)→(l.map λk=>k.tops.length).sum≤(l.map F.size).sum:=by
    intro l;induction l with
    |nil=>simp
    |cons x xs ihx=>intro h;have h1:=h x (by simp);have h2:=ihx λk hk=>h k (by simp[hk]);simp only[qR,rq];omega
   have:=this kids ih;omega
  ·simp
theorem jY:∀f:F,f.ok→PX 334 [f.V] [.list (f.tops.map F.V)]:=by
 refine F.ind λop n ins kids ih hok=>?_;refine BU 334 ?_;have hsz:=hok.2;rw[F.size_eq]at hsz;have hkl:=F.kids_len kids;have htz:=cq (.mk op n ins kids);rw[F.tops_eq,F.size_eq]at htz;rw[F.tops_eq];simp only[Zw,At 334,AA 334 0,AA 334 1,AV];by_cases h5:op=5
 ·subst h5;rw[if_pos rfl]at htz ⊢;simp[F.V_eq,AB,AA 334 3,AA 334 4];refine AM kids.length (λk=>⟨[(1,.ref 0 0),(3,.own 84 4 (((kids.take k).flatMap F.tops).map F.V)),(4,.v (.int .i64 k))],[.cells (F.mk 5 n ins kids).cells]⟩) (by simp[F.cells,F.op,F.n,F.ins,F.kids]) ?_;intro k hk;simp only[Zw,BA 334 0,AA 334 5,F.cells,F.op,F.n,F.ins,F.kids];by_cases h1:k <kids.length
  ·obtain⟨x,hx⟩:∃x,kids[k]?=some x:=⟨_,qH h1⟩;have hxm:=qJ hx;have hw:=Bo k;have q:=(ih x hxm (F.ok_kid hok hxm)).fsp;have ht:(kids.take (k+1)).flatMap F.tops=(kids.take k).flatMap F.tops++x.tops:=by
    rw[qc,hx,rP];simp
   have hle:((kids.take (k+1)).flatMap F.tops).length≤(kids.flatMap F.tops).length:=by
    have:=congrArg (λl=>(l.flatMap F.tops).length) (rJ (k+1) kids);simp only[rP,qG]at this;omega
   rw[ht]at hle ⊢;rw[qG]at hle;generalize (kids.take k).flatMap F.tops=L at*;generalize x.tops=X at*;have hroom:AK (L.length+X.length) 64=true:=by simp[AK];omega
   have hh:BG 4 (X.map F.V)=true:=by
    cases X with
    |nil=>rfl
    |cons y ys=>obtain⟨a,b,c,d⟩:=y;simp[BG,F.V_eq]
   obtain⟨xo,xn,xi,xk⟩:=x;simp[F.V_eq]at q;simp[h1,AB];simp only[AA 334 7];simp[hx,F.V_eq];refine⟨_,_,q _,?_⟩;simp[hroom,hh];simp[AA 334 6,hw]
  ·have hk2:k=kids.length:=by omega
   subst hk2;rw[qm];simp[AJ,AA 334 8,AD,AX 334]
 ·rw[if_neg h5];simp[F.V_eq,h5,AA 334 2,AD,AX 334]
theorem Yg (X:List F):BG 4 (X.map F.V)=true:=by
 cases X with
 |nil=>rfl
 |cons y ys=>obtain⟨a,b,c,d⟩:=y;simp[BG,F.V_eq]
theorem fF (v0 v1 v8:V) (tops xs:List F) (a:F) (ai:Nat) (hxa:xs[ai]?=some a) (acc:List F) (hal:acc.length+tops.length≤64) (hok:∀b∈tops,(mkA a b).ok∧Bt (mkA a b)=0) (J:List Row) (Q:AExit→St→Prop)
  (hQ:∀e J,AF e 0= .v v0→AF e 1= .v v1→AF e 6= .v (.list (tops.map F.V))→AF e 7= .own 84 4 ((acc++tops.map (mkA a)).map F.V)→AF e 8= .v v8→AF e 9= .v (.list (xs.map F.V))→AF e 11= .v (.int .i64 ai)→Q (.exit 4) ⟨e,J⟩):
  awp Tryz.prog An (.loop (lG 314 2)) Q ⟨[(0,.v v0),(1,.v v1),(6,.v (.list (tops.map F.V))),(7,.own 84 4 (acc.map F.V)),(8,.v v8),(9,.v (.list (xs.map F.V))),(11,.v (.int .i64 ai)),(12,.v (.int .i64 0))],J⟩:=by
 refine Al tops.length (λk s=>∃J,s=⟨[(0,.v v0),(1,.v v1),(6,.v (.list (tops.map F.V))),(7,.own 84 4 ((acc++(tops.take k).map (mkA a)).map F.V)),(8,.v v8),(9,.v (.list (xs.map F.V))),(11,.v (.int .i64 ai)),(12,.v (.int .i64 k))],J⟩) ⟨J,by simp⟩ ?_;rintro k s hk ⟨J,rfl⟩;simp only[Zw,BA 314 2,AA 314 15];by_cases h1:k <tops.length
 ·obtain⟨b,hb⟩:∃b,tops[k]?=some b:=⟨_,qH h1⟩;have hbm:=qJ hb;have hw:=Bo k;obtain⟨o1,o2⟩:=hok b hbm;have q1:=dJ a;have q2:=dJ b;have q3:=(Wp _ o1).fsp;rw[o2]at q3;have hpl:(CJ a).length+(CJ b).length≤2^40:=by
   have h2:=o1.2;unfold mkA at h2;rw[F.size_eq]at h2;have h3:=F.kids_len (CJ a++CJ b);rw[qG]at h3;omega
  have ht:(tops.take (k+1)).map (mkA a)=(tops.take k).map (mkA a)++[mkA a b]:=by
   rw[qc,hb,qh];rfl
  have htl:((tops.take k).map (mkA a)).length≤k:=by rw[qr,qv];omega
  have hA:=Yg (CJ a);have hB:=Yg (CJ b);rw[ht];have hm:mkA a b= .mk 4 0 [] (CJ a++CJ b):=rfl;rw[hm]at q3 ⊢;generalize (tops.take k).map (mkA a)=L at*;generalize CJ a=PA at*;generalize CJ b=PB at*;have r1:AK PA.length 64=true:=by simp[AK];omega
  have r2:AK (PA.length+PB.length) 64=true:=by simp[AK];omega
  have r3:AK (acc.length+L.length+1) 64=true:=by simp[AK];omega
  obtain⟨ao,an,ai2,ak⟩:=a;obtain⟨bo,bn,bi,bk⟩:=b;simp only[F.V_eq]at q1 q2;simp[F.V_eq]at q3;simp[h1,AB];simp only[AW,AA 314 17];simp[hxa,F.V_eq];refine⟨_,_,⟨rfl,rfl⟩,_,q1,?_⟩;simp[hA,r1,hb,F.V_eq];refine⟨_,_,⟨rfl,rfl⟩,_,q2,?_⟩;simp[hB,r2,AS];simp only[AA 314 18];simp;refine⟨_,_,q3 _,?_⟩;simp;simp only[AA 314 20];simp[r3];simp[AA 314 16,hw]
 ·have hk2:k=tops.length:=by omega
  subst hk2;rw[qm];simp at hQ;simp[AJ];exact hQ _ _ rfl rfl rfl rfl rfl rfl rfl
def Gl (tops:List F) (a:F):List F:=tops.map (mkA a)
theorem PO (tops:List F) (l:List F):(l.flatMap (Gl tops)).length=l.length*tops.length:=by
 induction l with
 |nil=>simp
 |cons x xs ih=>rw[qN,qG,ih,qT,rO,Nat.one_mul,Nat.add_comm];simp[Gl]
theorem fG (v0 v1 v8:V) (tops xs:List F) (hxl:xs.length≤64) (acc:List F) (hal:acc.length+xs.length*tops.length≤64) (hok:∀a∈xs,∀b∈tops,(mkA a b).ok∧Bt (mkA a b)=0) (J:List Row) (Q:AExit→St→Prop)
  (hQ:∀e J,AF e 0= .v v0→AF e 1= .v v1→AF e 6= .v (.list (tops.map F.V))→AF e 7= .own 84 4 ((acc++xs.flatMap (Gl tops)).map F.V)→AF e 8= .v v8→Q (.exit 2) ⟨e,J⟩):
  awp Tryz.prog An (.loop (lG 314 1)) Q ⟨[(0,.v v0),(1,.v v1),(6,.v (.list (tops.map F.V))),(7,.own 84 4 (acc.map F.V)),(8,.v v8),(9,.v (.list (xs.map F.V))),(11,.v (.int .i64 0))],J⟩:=by
 refine Al xs.length (λk s=>∃J,s=⟨[(0,.v v0),(1,.v v1),(6,.v (.list (tops.map F.V))),(7,.own 84 4 ((acc++(xs.take k).flatMap (Gl tops)).map F.V)),(8,.v v8),(9,.v (.list (xs.map F.V))),(11,.v (.int .i64 k))],J⟩) ⟨J,by simp⟩ ?_;rintro k s hk ⟨J,rfl⟩;simp only[Zw,BA 314 1,AA 314 12];by_cases h1:k <xs.length
 ·obtain⟨a,ha⟩:∃a,xs[k]?=some a:=⟨_,qH h1⟩;have ham:=qJ ha;have hw:=Bo k;have ht:(xs.take (k+1)).flatMap (Gl tops)=(xs.take k).flatMap (Gl tops)++Gl tops a:=by
   rw[qc,ha,rP];simp
  have hl:=PO tops (xs.take k);rw[qv,tR hk]at hl;have hmul:(k+1)*tops.length≤xs.length*tops.length:=sf _ h1;rw[rO,Nat.one_mul]at hmul;have hloop:=λJ Q=>fF v0 v1 v8 tops xs a k ha (acc++(xs.take k).flatMap (Gl tops)) (by rw[qG];omega) (hok a ham) J Q;rw[ht];generalize (xs.take k).flatMap (Gl tops)=L at*;simp at hloop;simp[h1,AB,AA 314 14];refine hloop _ _ ?_;intro e J f0 f1 f6 f7 f8 f9 f11;simp[AA 314 13,f0,f1,f6,f7,f8,f9,f11,hw,Gl]
 ·have hk2:k=xs.length:=by omega
  subst hk2;rw[qm];simp only[qh]at hQ;simp[AJ];exact hQ _ _ rfl rfl rfl rfl rfl
theorem jh (T:List Clm) (hT:AltOK T):∀i:Nat,i <T.length→PX 314 [.list (T.map Clm.V),.int .i64 i] [.list ((C4 T i).map F.V),.bool true]:=by
 intro i;induction i using Nat.strongRecOn with
 |_ i ih=>
  intro hi;obtain⟨c,hc⟩:∃c,T[i]?=some c:=⟨_,qH hi⟩;have hcm:=qJ hc;obtain⟨b1,b2,b3⟩:=hT.body c hcm;have hpre:=hT.pre i c hc;have hone:=hT.one i c hc;have hmka:=hT.mka i c hc;have hacc:∀r∈c.refs,((Dk (T.take i))[r.toNat]?).getD []=C4 T r:=by
   intro r hr;have:=hT.low i c hc r hr;have hl:=MK T;rw[MJ T i (by omega),List.getElem?_take_of_lt (by omega)];rfl
  have ihr:∀r∈c.refs,PX 314 [.list (T.map Clm.V),.int .i64 r] [.list ((C4 T r).map F.V),.bool true]:=by
   intro r hr;have:=hT.low i c hc r hr;obtain⟨m,rfl⟩:∃m:Nat,r=m:=⟨r.toNat,by omega⟩;exact ih m (by omega) (by omega)
  have hat:C4 T i=if c.refs=[] then c.body.tops else c.refs.flatMap λr=>(C4 T r).flatMap (Gl c.body.tops):=by
   have e:=LE T hc T.length hi (qM _);rw[qm]at e;rw[show C4 T i=((Dk T)[i]?).getD [] from by unfold C4;rw[qt],e,qd];unfold HL;split
   ·rfl
   ·have:∀l:List Int,(∀r∈l,r∈c.refs)→(l.flatMap λr=>(((Dk (T.take i))[r.toNat]?).getD []).flatMap λa=>c.body.tops.map λb=>mkA a b)=l.flatMap λr=>(C4 T r).flatMap (Gl c.body.tops):=by
     intro l;induction l with
     |nil=>intro _;rfl
     |cons x xs ihx=>intro h;rw[qN,qN,ihx λr hr=>h r (by simp[hr]),hacc x (h x (by simp))];rfl
    exact this _ λr hr=>hr
  have hpre2:∀j,j≤c.refs.length→((c.refs.take j).flatMap λr=>(C4 T r).flatMap (Gl c.body.tops)).length≤64:=by
   intro j hj;have:∀l:List Int,(∀r∈l,r∈c.refs)→(l.flatMap λr=>(((Dk (T.take i))[r.toNat]?).getD []).flatMap λa=>c.body.tops.map (mkA a))=l.flatMap λr=>(C4 T r).flatMap (Gl c.body.tops):=by
    intro l;induction l with
    |nil=>intro _;rfl
    |cons x xs ihx=>intro h;rw[qN,qN,ihx λr hr=>h r (by simp[hr]),hacc x (h x (by simp))];rfl
   rw[←this _ λr hr=>rK hr];exact hpre j hj
  have hone2:∀r∈c.refs,(C4 T r).length≤64:=λr hr=>by rw[←hacc r hr];exact hone r hr
  have hmka2:∀r∈c.refs,∀a∈C4 T r,∀b∈c.body.tops,(mkA a b).ok∧Bt (mkA a b)=0:=λr hr a ha=>hmka r hr a (by rw[hacc r hr];exact ha);clear hpre hone hmka hacc;have q334:=(jY c.body b1).fsp;refine BU 314 ?_;simp only[Zw,At 314,AA 314 0,AA 314 1,AV];obtain⟨refs,op,n,ins,kids⟩:=c;simp only[F.V_eq]at q334;simp at q334;simp only at hat ihr hone2 hmka2 hpre2 b2 b3;rw[hat];generalize (F.mk op n ins kids).tops=tops at*;simp[hc,Clm.V,AH,F.op,F.n,F.ins,F.kids];refine⟨_,_,q334 _,?_⟩;simp only[AA 314 2];simp[hc,Clm.V,AH];by_cases h0:refs=[]
  ·subst h0;simp[AA 314 3,AD,AX 314];omega
  ·simp[h0,AB,AA 314 4,AA 314 5];refine Al refs.length (λk s=>∃J,s=⟨[(0,.v (.list (T.map Clm.V))),(1,.v (.int .i64 i)),(6,.v (.list (tops.map F.V))),(7,.own 84 4 (((refs.take k).flatMap λr=>(C4 T r).flatMap (Gl tops)).map F.V)),(8,.v (.int .i64 k))],J⟩) ⟨[],by simp⟩ ?_;rintro k s hk ⟨J,rfl⟩;simp only[Zw,BA 314 0,AA 314 6];simp[hc,Clm.V,AH];by_cases h1:k <refs.length
   ·obtain⟨r,hr⟩:∃r,refs[k]?=some r:=⟨_,qH h1⟩;have hrm:=qJ hr;have hw:=Bo k;have q:=(ihr r hrm).fsp;have ht:((refs.take (k+1)).flatMap λr=>(C4 T r).flatMap (Gl tops))=((refs.take k).flatMap λr=>(C4 T r).flatMap (Gl tops))++(C4 T r).flatMap (Gl tops):=by
     rw[qc,hr,rP];simp
    have hp:=hpre2 (k+1) h1;have ho:=hone2 r hrm;have hm:=hmka2 r hrm;rw[ht]at hp ⊢;generalize ((refs.take k).flatMap λr=>(C4 T r).flatMap (Gl tops))=acc at*;generalize C4 T r=xs at*;rw[qG,PO]at hp;have hloop:=λJ Q=>fG (.list (T.map Clm.V)) (.int .i64 i) (.int .i64 k) tops xs ho acc hp hm J Q;obtain⟨P,hP⟩:∃P,xs.length*tops.length=P:=⟨_,rfl⟩;rw[hP]at hp;have w1:IntKind.i64.wrap ((xs.length:Int)*(tops.length:Int))=P:=by
     rw[←Int.natCast_mul,hP];exact AQ
    have w2:IntKind.i64.wrap ((acc.length:Int)+(P:Int))=acc.length+P:=AQ;have w3:¬(64:Int) <acc.length+P:=by omega
    simp at q;rw[if_pos h1,AB];simp only[AA 314 8];simp[hc,Clm.V,AH,hr];refine⟨_,_,q _,?_⟩;simp only[AA 314 9];simp[w1,w2,w3,AB,AA 314 11];refine hloop _ _ ?_;intro e J f0 f1 f6 f7 f8;simp[AA 314 7,f0,f1,f6,f7,f8,hw,h1]
   ·have hk2:k=refs.length:=by omega
    subst hk2;rw[if_neg h1,AJ,qm];simp[AA 314 21,AD,AX 314]
theorem kF (T:List Clm) (hT:AltOK T) (hok:∀c∈T,c.ok) (hz:CV T=0) (i:Nat) (hi:i <T.length):PX 266 [.list (T.map Clm.V),.int .i64 i] [.list ((C4 T i).map F.V),.int .i64 0]:=by
 refine BU 266 ?_;have q1:=(dX T hok (by have:=hT.len;omega) hz i hi).fsp;have q2:=(jh T hT i hi).fsp;generalize C4 T i=M at*;simp at q1 q2;simp only[At 266,AE,AG,AL,AA 266 0,AA 266 1,AV];simp;refine⟨_,_,q1 _,?_⟩;simp[AA 266 2,AB];simp only[AA 266 4];simp;refine⟨_,_,q2 _,?_⟩;simp[AA 266 5];simp[AA 266 7,AD,AX 266]
section
theorem nD (v0 v12:V) (r:Rgt) (hn:r.dates.length≤2^40) (i k day:Int) (tr:Row) (out b:Bool) (J:List Row) (Q:AExit→St→Prop)
  (hQ:∀e J,AF e 0= .v v0→AF e 2= .v (.int .i64 i)→AF e 4= .v (.int .i64 day)→AF e 6= .ref 0 0→AF e 8= .ref 1 0→AF e 12= .v v12→AF e 14= .v (.bool (out||(b&&VQ r i k day)))→AF e 15= .v (.int .i64 k)→Q (.exit 2) ⟨e,r.row::tr::J⟩):
  awp Tryz.prog An (.loop (lG 166 1)) Q ⟨[(0,.v v0),(2,.v (.int .i64 i)),(4,.v (.int .i64 day)),(6,.ref 0 0),(8,.ref 1 0),(12,.v v12),(14,.v (.bool out)),(15,.v (.int .i64 k)),(16,.v (.bool b)),(18,.v (.int .i64 0))],r.row::tr::J⟩:=by
 cases b with
 |false=>
  simp at hQ;refine Aa ?_;simp only[Zw,BA 166 1,AA 166 12,Rgt.row,AH];by_cases h0:0 <r.dates.length
  ·simp[h0,AJ];exact hQ _ _ rfl rfl rfl rfl rfl rfl rfl rfl
  ·simp[h0,AJ];exact hQ _ _ rfl rfl rfl rfl rfl rfl rfl rfl
 |true=>
  simp only[rC]at hQ;unfold VQ at hQ;refine Al r.dates.length (λj s=>∃J,s=⟨[(0,.v v0),(2,.v (.int .i64 i)),(4,.v (.int .i64 day)),(6,.ref 0 0),(8,.ref 1 0),(12,.v v12),(14,.v (.bool (out||(r.dates.take j).any λd=>((d.cl==i)&&(d.ix==k))&&decide (d.day <day)))),(15,.v (.int .i64 k)),(16,.v (.bool true)),(18,.v (.int .i64 j))],r.row::tr::J⟩) ⟨J,by simp⟩ ?_;rintro j s hj ⟨J,rfl⟩;simp only[Zw,BA 166 1,AA 166 12,Rgt.row,AH];by_cases h1:j <r.dates.length
  ·obtain⟨d,hd⟩:∃d,r.dates[j]?=some d:=⟨_,qH h1⟩;have hw:=Bo j;have ht:((r.dates.take (j+1)).any λd=>((d.cl==i)&&(d.ix==k))&&decide (d.day <day))=(((r.dates.take j).any λd=>((d.cl==i)&&(d.ix==k))&&decide (d.day <day))||(((d.cl==i)&&(d.ix==k))&&decide (d.day <day))):=by
    rw[qc,hd,List.any_append];simp
   rw[ht,←Bool.or_assoc];generalize (out||(r.dates.take j).any λd=>((d.cl==i)&&(d.ix==k))&&decide (d.day <day))=B at*
   obtain⟨dc,dx,dd,df⟩:=d;simp[h1,AB];simp only[AA 166 14];simp[hd,Dat.V,AS];simp only[AA 166 15];cases B with
   |true=>
    simp;simp[AA 166 13,hw]
   |false=>
    by_cases c1:dc=i
    ·by_cases c2:dx=k
     ·by_cases c3:dd <day<;>(simp[c1,c2,c3];simp[AA 166 13,hw])
     ·simp[c1,c2];simp[AA 166 13,hw];exact λh=>absurd h c2
    ·simp[c1];simp[AA 166 13,hw];exact λh=>absurd h c1
  ·have hk2:j=r.dates.length:=by omega
   subst hk2;rw[qm];simp only[Rgt.row,AH]at hQ;simp[AJ];exact hQ _ _ rfl rfl rfl rfl rfl rfl rfl rfl
variable {pa:List V}
theorem lZ {I:Int→Int→Bool} (hp:pa.length≤2^40) (hI:∀a b:Int,0≤a→a <pa.length→0≤b→b <pa.length→PX 311 [.list pa,.int .i64 a,.int .i64 b] [.bool (I a b)])
  (r:Rgt) (hr:AltOK r.claims) (hok:∀c∈r.claims,c.ok) (hz:CV r.claims=0) (hd:r.dates.length≤2^40) (i:Nat) (hi:i <r.claims.length) (t:Th) (ht:t.ok) (hs:t.size≤2^40) (hal:∀f∈C4 r.claims i,f.ok∧Lr pa.length f t=0) (hl:(C4 r.claims i).length≤64) (day:Int):
  PX 166 [.list pa,r.V,.int .i64 i,t.V,.int .i64 day] [.bool (bq I t r i day),.int .i64 0]:=by
 refine BU 166 ?_;have q1:=(kF r.claims hr hok hz i hi).fsp;have q2:=λf hf=>Zj hp hI f (hal f hf).1 t ht hs;unfold bq;generalize C4 r.claims i=al at*;have hin:=λv0 v12 k tr out b J Q=>nD v0 v12 r hd i k day tr out b J Q;obtain⟨tc,tv,tp⟩:=t;simp only[Th.V_eq,Rgt.V,Rgt.cs,AH,Rgt.row]at*;simp at q1;simp only[Zw,At 166,AA 166 0,AA 166 1,AV];simp;refine⟨_,_,q1 _,?_⟩;simp[AA 166 2,AB,AA 166 4,AA 166 5];refine Al al.length (λk s=>∃J,s=⟨[(0,.v (.list pa)),(2,.v (.int .i64 i)),(4,.v (.int .i64 day)),(6,.ref 0 0),(8,.ref 1 0),(12,.v (.list (al.map F.V))),(14,.v (.bool (ME I (.mk tc tv tp) r i day 0 (al.take k)))),(15,.v (.int .i64 k))],
  .cells [.v (.int .i64 r.file),.v (.int .i64 r.state),.v (.int .i64 r.force),.v (.list (r.claims.map Clm.V)),.v (.list (r.dates.map Dat.V)),.v (.list (r.bad.map (.int .i64))),.v (.list (r.owners.map Own.V)),.v (.list (r.lics.map Lic.V))]:: .cells [.v (.list (tc.map (.int .i64))),.v (.list (tv.map Val.V)),.v (.list (tp.map Th.V))]::J⟩) ⟨[],by simp[ME]⟩ ?_
 rintro k s hk ⟨J,rfl⟩;simp only[Zw,BA 166 0,AA 166 6];by_cases h1:k <al.length
 ·obtain⟨f,hf⟩:∃f,al[k]?=some f:=⟨_,qH h1⟩;have hfm:=qJ hf;have hw:=Bo k;have q:=q2 f hfm;rw[(hal f hfm).2]at q;simp only[decide_true,rC]at q;have ht:ME I (.mk tc tv tp) r i day 0 (al.take (k+1))=(ME I (.mk tc tv tp) r i day 0 (al.take k)||(f.hold I (.mk tc tv tp)&&VQ r i k day)):=by
   have hl:(al.take k).length=k:=by rw[qv];omega
   rw[qc,hf,Option.toList_some,QC,hl,rt]
  rw[ht];generalize ME I (.mk tc tv tp) r i day 0 (al.take k)=B at*;generalize f.hold I (.mk tc tv tp)=b at*;obtain⟨fo,fn,fi,fk⟩:=f;simp only[F.V_eq]at q;simp[h1,AB];simp only[AW,AA 166 8];simp[hf,F.V_eq];refine⟨_,_,⟨rfl,rfl⟩,_,q,?_⟩;simp[AA 166 9,AA 166 11];refine hin _ _ _ _ _ _ _ _ ?_;intro e J f0 f2 f4 f6 f8 f12 f14 f15;simp[AA 166 7,f0,f2,f4,f6,f8,f12,f14,f15,hw]
 ·have hk2:k=al.length:=by omega
  subst hk2;rw[qm];simp[AJ,AA 166 16,AD,AX 166]
end
theorem jH (pa:V) (x:Ext) (hk:x.kind=0):PX 77 [pa,x.V] [.list [],.list [],.int .i64 0]:=by
 refine BU 77 ?_;simp only[At 77,AE,AG,AL,AA 77 0,AA 77 1,AV,Ext.V,Ext.cs];simp[hk,AA 77 2,AD,AX 77]
theorem mV (x:Ext) (r:Rgt) (i:Nat) (hr:x.rs[i]?=some r) (ho:r.owners.length <2^40) (d7:D) (Q:AExit→St→Prop)
  (hQ:∀e,AF e 3= .ref 0 0→AF e 7=d7→AF e 8= .v (.int .i64 i)→AF e 9= .v (.bool (r.owners.any λo=>o.party==x.party))→Q (.exit 2) ⟨e,[x.row]⟩):
  awp Tryz.prog An (.loop (lG 77 1)) Q ⟨[(3,.ref 0 0),(7,d7),(8,.v (.int .i64 i)),(9,.v (.bool false)),(10,.v (.int .i64 (0:Nat)))],[x.row]⟩:=by
 refine AM r.owners.length (λk=>⟨[(3,.ref 0 0),(7,d7),(8,.v (.int .i64 i)),(9,.v (.bool ((r.owners.take k).any λo=>o.party==x.party))),(10,.v (.int .i64 k))],[x.row]⟩) (by simp) ?_;intro k hk;obtain⟨kind,file,party,day,t,rs,cl,fs,L,R,S⟩:=x;obtain⟨rf,rst,rfo,rcl,rda,rba,row,rli⟩:=r;simp only[Ext.row,Ext.cs,AH]at*;simp only[Zw,BA 77 1,AA 77 10];simp[hr,Rgt.V,Rgt.cs];by_cases h1:k <row.length
 ·obtain⟨o,hox⟩:∃o,row[k]?=some o:=⟨_,qH h1⟩;have hw:=Bo k;have ht:((row.take (k+1)).any λo=>o.party==party)=(((row.take k).any λo=>o.party==party)||(o.party==party)):=by
   rw[qc,hox,List.any_append];simp
  rw[ht];generalize ((row.take k).any λo=>o.party==party)=B at*;simp[h1,AB];simp only[AW,AA 77 12];cases B with
  |true=>
   simp;simp[AA 77 11,hw]
  |false=>
   simp[hr,hox,Rgt.V,Rgt.cs,Own.V];simp[AA 77 11,hw]
 ·have hk2:k=row.length:=by omega
  subst hk2;rw[if_neg (by omega),AJ];rw[qm];exact hQ _ rfl rfl rfl rfl
theorem jI (pa:V) (x:Ext) (hk:x.kind=2) (hn:x.rs.length≤2^20) (ho:∀r∈x.rs,r.owners.length <2^40):PX 77 [pa,x.V] [.list [],AH .i64 (E8 x.party x.rs),.int .i64 0]:=by
 refine BU 77 ?_;have hin:=λr i hr d7 Q=>mV x r i hr (ho r (qJ hr)) d7 Q;obtain⟨kind,file,party,day,t,rs,cl,fs,L,R,S⟩:=x;simp only[Ext.row,Ext.cs,AH]at*;subst hk;simp only[Zw,At 77,AA 77 0,AA 77 1,AV,Ext.V,Ext.cs];simp[AB,AA 77 3,AA 77 4,AA 77 5,AH];refine AM rs.length (λk=>⟨[(3,.ref 0 0),(7,.own 3 1 ((E8 party (rs.take k)).map (.int .i64))),(8,.v (.int .i64 k))],[(Ext.mk 2 file party day t rs cl fs L R S).row]⟩) (by simp[E8,Ext.row,Ext.cs,AH]) ?_;intro k hk;simp only[Zw,BA 77 0,AA 77 6,Ext.row,Ext.cs,AH];simp;by_cases h1:k <rs.length
 ·obtain⟨r,hr⟩:∃r,rs[k]?=some r:=⟨_,qH h1⟩;have hw:=Bo k;have hfl:E8 party (rs.take (k+1))=E8 party (rs.take k)++if (r.owners.any λo=>o.party==party) then [r.file] else []:=by
   rw[qc,hr];unfold E8;rw[su,qh];cases h2:r.owners.any (λo=>o.party==party)<;>simp[h2]
  have hlen:(E8 party (rs.take k)).length≤k:=by
   unfold E8;have:=rT (λr=>r.owners.any λo=>o.party==party) (rs.take k);rw[qv]at this;rw[qr];omega
  rw[hfl];generalize E8 party (rs.take k)=L0 at*;have hroom:AK (L0.length+1) 8=true:=by simp[AK];omega
  have hin:=hin r k hr;generalize (r.owners.any λo=>o.party==party)=B at*;simp at hin;simp[h1,AB,AA 77 8,AA 77 9];refine hin _ _ ?_;intro e h3 h7 h8 h9;simp[AA 77 13,h3,h7,h8,h9];obtain⟨rf,rst,rfo,rcl,rda,rba,row,rli⟩:=r;cases B with
  |false=>simp[AA 77 7,hw]
  |true=>
   simp[AA 77 14,hr,Rgt.V,Rgt.cs,hroom];simp[AA 77 7,hw]
 ·have hk2:k=rs.length:=by omega
  subst hk2;rw[if_neg (by omega),AJ,qm];simp[AA 77 15,AD,AX 77]
theorem jK (pa:List V) (x:Ext) (cl:List (Int×Int)) (E:Int) (hk:x.kind=1∨x.kind=3∧E≠0) (q73:PX 73 [.list pa,.list (x.rs.map Rgt.V),x.t.V] [.list (cl.map Bh),.int .i64 E]):
  PX 77 [.list pa,x.V] [.list (cl.map Bh),.list [],.int .i64 E]:=by
 refine BU 77 ?_;obtain⟨kind,file,party,day,⟨tc,tv,tp⟩,rs,cl0,fs,L,R,S⟩:=x;have q:=q73.fsp;simp only[Th.V_eq]at*;have k0:¬kind=0:=by omega
 have k2:¬kind=2:=by omega
 simp at q;simp only[At 77,AE,AG,AL,AA 77 0,AA 77 1,AV,Ext.V,Ext.cs,Th.cs,Th.vs,Th.ps,AH]at*;simp[k0,AB,AA 77 3,k2];simp only[AA 77 16];simp;refine⟨_,_,q _,?_⟩;simp only[AA 77 17];by_cases hE:E=0
 ·have k1:kind=1:=by omega
  simp[hE,k1,AA 77 18,AD,AX 77]
 ·simp[hE,AA 77 18,AD,AX 77]
theorem mU (v0:V) (x:Ext) (cl:List (Int×Int)) (c:Int×Int) (i:Nat) (hc:cl[i]?=some c) (j:Nat) (r:Rgt) (hr:x.rs[j]?=some r) (hrf:r.file=c.1) (hne:∀k q,k <j→x.rs[k]?=some q→q.file≠c.1) (hj:j <2^40) (d13:D) (Q:AExit→St→Prop)
  (hQ:∀e,AF e 0= .v v0→AF e 3= .ref 0 0→AF e 11= .v (.list (cl.map Bh))→AF e 13=d13→AF e 14= .v (.int .i64 i)→AF e 15= .v (.int .i64 j)→Q (.exit 6) ⟨e,[x.row]⟩):
  awp Tryz.prog An (.loop (lG 77 3)) Q ⟨[(0,.v v0),(3,.ref 0 0),(11,.v (.list (cl.map Bh))),(13,d13),(14,.v (.int .i64 i)),(15,.v (.int .i64 (0:Nat)))],[x.row]⟩:=by
 refine AM j (λk=>⟨[(0,.v v0),(3,.ref 0 0),(11,.v (.list (cl.map Bh))),(13,d13),(14,.v (.int .i64 i)),(15,.v (.int .i64 k))],[x.row]⟩) rfl ?_;intro k hk;obtain⟨kind,file,party,day,t,rs,cl0,fs,L,R,S⟩:=x;have hjl:j <rs.length:=(qK.1 hr).1;obtain⟨q,hq⟩:∃q,rs[k]?=some q:=⟨_,qH (by omega)⟩;have hqf:q.file=c.1↔k=j:=by
  constructor
  ·intro h;rcases qi k j with h1|h1
   ·exact absurd h (hne k q h1 hq)
   ·omega
  ·rintro rfl;rw[hr]at hq;obtain rfl:=re hq;exact hrf
 obtain⟨cf,ci⟩:=c;simp only[Ext.row,Ext.cs,AH]at*;simp only[BA 77 3,AE,AW,AU,AL,AA 77 24];obtain⟨rf,rst,rfo,rcl,rda,rba,row,rli⟩:=q;simp only at hqf;simp[hq,hc,Rgt.V,Rgt.cs,Bh];by_cases h1:k=j
 ·have h2:rf=cf:=hqf.2 h1;subst h1;simp[h2,AJ];exact hQ _ rfl rfl rfl rfl rfl rfl
 ·have h2:¬rf=cf:=λh=>h1 (hqf.1 h);have hw:=Bo k;simp[h2,AB,AG,AA 77 25,hw];omega
theorem jJ (pa:List V) (x:Ext) (hk:x.kind=3) (cl:List (Int×Int)) (hcl:cl.length≤2^20) (q73:PX 73 [.list pa,.list (x.rs.map Rgt.V),x.t.V] [.list (cl.map Bh),.int .i64 0]) (b:Int×Int→Bool)
  (hf:∀c∈cl,∃j r,x.rs[j]?=some r∧r.file=c.1∧(∀k q,k <j→x.rs[k]?=some q→q.file≠c.1)∧j <2^40∧PX 166 [.list pa,r.V,.int .i64 c.2,x.t.V,.int .i64 x.day] [.bool (b c),.int .i64 0]):
  PX 77 [.list pa,x.V] [.list ((cl.filter b).map Bh),.list [],.int .i64 0]:=by
 refine BU 77 ?_;have hin:=λc i hc j r hr hrf hne hj d13 Q=>mU (.list pa) x cl c i hc j r hr hrf hne hj d13 Q;obtain⟨kind,file,party,day,⟨tc,tv,tp⟩,rs,cl0,fs,L,R,S⟩:=x;have q:=q73.fsp;simp only[Th.V_eq,Th.cs,Th.vs,Th.ps,Ext.row,Ext.cs,AH]at*;subst hk;simp at q;simp only[Zw,At 77,AA 77 0,AA 77 1,AV,Ext.V,Ext.cs,Th.cs,Th.vs,Th.ps,AH]at*;simp[AB,AA 77 3];simp only[AA 77 16];simp;refine⟨_,_,q _,?_⟩;simp only[AA 77 17];simp[AA 77 19,AA 77 20];refine AM cl.length (λk=>⟨[(0,.v (.list pa)),(3,.ref 0 0),(11,.v (.list (cl.map Bh))),(13,.own 186 2 (((cl.take k).filter b).map Bh)),(14,.v (.int .i64 k))],[.cells ((Ext.mk 3 file party day (.mk tc tv tp) rs cl0 fs L R S).cs.map .v)]⟩) (by simp[Ext.cs,AH,Th.cs,Th.vs,Th.ps]) ?_;intro k hk;simp only[Zw,BA 77 2,AA 77 21,Ext.cs,AH,Th.cs,Th.vs,Th.ps];simp;by_cases h1:k <cl.length
 ·obtain⟨c,hc⟩:∃c,cl[k]?=some c:=⟨_,qH h1⟩;obtain⟨j,r,hr,hrf,hne,hj,q166⟩:=hf c (qJ hc);have hw:=Bo k;have hfl:(cl.take (k+1)).filter b=(cl.take k).filter b++if b c then [c] else []:=by
   rw[qc,hc,su];cases h2:b c<;>simp[h2]
  have hlen:=rT b (cl.take k);rw[qv]at hlen;rw[hfl];generalize (cl.take k).filter b=L0 at*;have hroom:AK (L0.length+1) 16=true:=by simp[AK];omega
  have hin:=hin c k hc j r hr hrf hne hj;simp at hin;obtain⟨cf,ci⟩:=c;obtain⟨rf,rst,rfo,rcl,rda,rba,row,rli⟩:=r;simp[Rgt.V,Rgt.cs,AH]at q166;generalize b (cf,ci)=B at*;simp[h1,AB,AA 77 23];refine hin _ _ ?_;intro e h0 h3 h11 h13 h14 h15;simp only[AW,AA 77 26];simp[h0,h3,h11,h14,h15,hr,hc,Rgt.V,Rgt.cs,Bh,AH];refine⟨_,_,⟨rfl,rfl⟩,_,q166,?_⟩;simp[AA 77 27,AA 77 29,h0,h3,h11,h13,h14];cases B with
  |false=>simp[AA 77 22,hw]
  |true=>
   simp[AA 77 30,hc,Bh,hroom];simp[AA 77 22,hw]
 ·have hk2:k=cl.length:=by omega
  subst hk2;rw[if_neg (by omega),AJ,qm];simp[AA 77 31,AD,AX 77]
def Ee (kind file party day:Int) (t:Th):Ext:=⟨kind,file,party,day,t,[],[],[],[],[],[]⟩
theorem pF (x:Ext):PX 75 [x.V] [.int .i64 (if x.kind=0 then x.file else 0),.int .i64 (if x.kind=0 then x.file else 4095)]:=by
 refine BU 75 ?_;obtain⟨kind,file,party,day,t,rs,cl,fs,L,R,S⟩:=x;simp only[At 75,AE,AG,AL,AA 75 0,AA 75 1,AV,Ext.V,Ext.cs];by_cases h:kind=0
 ·simp[h,AW,AA 75 2,AD,AX 75,AH]
 ·simp[h,AB,AA 75 3,AD,AX 75,AH]
theorem jL (n:Int):PX 74 [(Ee 0 n 0 0 (.mk [] [] [])).V] [.int .i64 (if n <0∨4095 <n then 5 else 0)]:=by
 refine BU 74 ?_;simp only[At 74];rw[AE,AG];simp only[AA 74 0,AV,Ext.V,Ext.cs,Ee,Th.cs,Th.vs,Th.ps,AH];simp;rw[AE,AG];simp only[AA 74 1];simp;rw[AE,AG];simp only[AA 74 2];simp;rw[AE,AE,AG];simp only[AA 74 3];simp;rw[AL];simp[AB];rw[AE,AE,AG];simp only[AA 74 5];by_cases h1:n <0
 ·simp[h1,AL,AE,AG,AA 74 6,AD,AX 74]
 ·by_cases h2:4095 <n
  ·simp[h1,h2,AL,AE,AG,AA 74 6,AD,AX 74]
  ·simp[h1,h2,AL,AB];rw[AE,AE,AG];simp only[AA 74 7];simp[AL,AB,AE,AG,AA 74 9,AD,AX 74]
theorem jM (n:Int):PX 74 [(Ee 2 0 n 0 (.mk [] [] [])).V] [.int .i64 (if n <1∨4095 <n then 1 else 0)]:=by
 refine BU 74 ?_;simp only[At 74];rw[AE,AG];simp only[AA 74 0,AV,Ext.V,Ext.cs,Ee,Th.cs,Th.vs,Th.ps,AH];simp;rw[AE,AG];simp only[AA 74 1];simp;rw[AE,AG];simp only[AA 74 2];simp;rw[AE,AE,AG];simp only[AA 74 3];simp;rw[AL];simp[AB];rw[AE,AE,AG];simp only[AA 74 5];simp[AL,AB];rw[AE,AE,AG];simp only[AA 74 7];by_cases h1:n <1
 ·simp[h1,AL,AE,AG,AA 74 8,AD,AX 74]
 ·by_cases h2:4095 <n
  ·simp[h1,h2,AL,AE,AG,AA 74 8,AD,AX 74]
  ·simp[h1,h2,AL,AB,AE,AG,AA 74 9,AD,AX 74]
theorem jO (t:Th):PX 74 [(Ee 1 0 0 0 t).V] [.int .i64 0]:=by
 refine BU 74 ?_;obtain⟨cs,vs,ps⟩:=t;simp only[At 74];rw[AE,AG];simp only[AA 74 0,AV,Ext.V,Ext.cs,Ee,Th.cs,Th.vs,Th.ps,AH];simp;rw[AE,AG];simp only[AA 74 1];simp;rw[AE,AG];simp only[AA 74 2];have n1:∀m:Nat,¬((m:Int)+1=0):=by omega
 have n2:∀m:Nat,(((m:Int)+1==0)=false):=λm=>by simpa using n1 m
 cases cs<;>cases vs<;>simp[n2]
 all_goals
  rw[AE,AE,AG];simp only[AA 74 3];simp;rw[AL];simp[AB];rw[AE,AE,AG];simp only[AA 74 5];simp[AL,AB];rw[AE,AE,AG];simp only[AA 74 7];simp[AL,AB,AE,AG,AA 74 9,AD,AX 74]
theorem jN (n:Int) (t:Th):PX 74 [(Ee 3 0 0 n t).V] [.int .i64 (if n <0∨131072 <n then 5 else 0)]:=by
 refine BU 74 ?_;obtain⟨cs,vs,ps⟩:=t;simp only[At 74];rw[AE,AG];simp only[AA 74 0,AV,Ext.V,Ext.cs,Ee,Th.cs,Th.vs,Th.ps,AH];simp;rw[AE,AG];simp only[AA 74 1];simp;rw[AE,AG];simp only[AA 74 2];have n1:∀m:Nat,¬((m:Int)+1=0):=by omega
 have n2:∀m:Nat,(((m:Int)+1==0)=false):=λm=>by simpa using n1 m
 cases cs<;>cases vs<;>simp[n2]
 all_goals
  rw[AE,AE,AG];simp only[AA 74 3];simp;rw[AL];simp[AB];rw[AE,AE,AG];simp only[AA 74 5];by_cases h1:n <0
  ·simp[h1,AL,AE,AG,AA 74 6,AD,AX 74]
  ·by_cases h2:131072 <n
   ·simp[h1,h2,AL,AE,AG,AA 74 6,AD,AX 74]
   ·simp[h1,h2,AL,AB];rw[AE,AE,AG];simp only[AA 74 7];simp[AL,AB,AE,AG,AA 74 9,AD,AX 74]
end Go.Va
