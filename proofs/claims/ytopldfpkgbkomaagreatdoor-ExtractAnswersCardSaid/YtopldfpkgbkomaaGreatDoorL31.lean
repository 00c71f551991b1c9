/- Laws that ExtractAnswers leans on, part 31. No condition of its own. -/
import Derived.Test.YtopldfpkgbkomaaGreatDoorL26
import Derived.Test.YtopldfpkgbkomaaGreatDoorL28
import Derived.Test.YtopldfpkgbkomaaGreatDoorL29
import Derived.Test.YtopldfpkgbkomaaGreatDoorL30
set_option linter.all false
set_option maxRecDepth 100000
set_option maxHeartbeats 4000000
noncomputable section
namespace Go.Va
open Go.Proofs
section
theorem kP (v0 v12:V) (r:Rgt) (hn:r.dates.length≤2^40) (i k day:Int) (tr:Row) (out b:Bool) (J:List Row) (Q:AExit→St→Prop)
  (hQ:∀e J,AG e 0= .v v0→AG e 2= .v (.int .i64 i)→AG e 4= .v (.int .i64 day)→AG e 6= .ref 0 0→AG e 8= .ref 1 0→AG e 12= .v v12→AG e 14= .v (.bool (out||(b&&Pz r i k day)))→AG e 15= .v (.int .i64 k)→Q (.exit 2) ⟨e,r.row::tr::J⟩):
  awp Tryz.prog Ah (.loop (lG 166 1)) Q ⟨[(0,.v v0),(2,.v (.int .i64 i)),(4,.v (.int .i64 day)),(6,.ref 0 0),(8,.ref 1 0),(12,.v v12),(14,.v (.bool out)),(15,.v (.int .i64 k)),(16,.v (.bool b)),(18,.v (.int .i64 0))],r.row::tr::J⟩:=by
 cases b with
 |false=>
  simp at hQ;refine As ?_;simp only[Zw,A8 166 1,AA 166 12,Rgt.row,AH];by_cases h0:0 <r.dates.length
  ·simp[h0,AJ];exact hQ _ _ rfl rfl rfl rfl rfl rfl rfl rfl
  ·simp[h0,AJ];exact hQ _ _ rfl rfl rfl rfl rfl rfl rfl rfl
 |true=>
  simp only[pB]at hQ;unfold Pz at hQ;refine AY r.dates.length (λj s=>∃J,s=⟨[(0,.v v0),(2,.v (.int .i64 i)),(4,.v (.int .i64 day)),(6,.ref 0 0),(8,.ref 1 0),(12,.v v12),(14,.v (.bool (out||(r.dates.take j).any λd=>((d.cl==i)&&(d.ix==k))&&decide (d.day <day)))),(15,.v (.int .i64 k)),(16,.v (.bool true)),(18,.v (.int .i64 j))],r.row::tr::J⟩) ⟨J,by simp⟩ ?_;rintro j s hj ⟨J,rfl⟩;simp only[Zw,A8 166 1,AA 166 12,Rgt.row,AH];by_cases h1:j <r.dates.length
  ·obtain⟨d,hd⟩:∃d,r.dates[j]?=some d:=⟨_,oI h1⟩;have hw:=Bb j;have ht:((r.dates.take (j+1)).any λd=>((d.cl==i)&&(d.ix==k))&&decide (d.day <day))=(((r.dates.take j).any λd=>((d.cl==i)&&(d.ix==k))&&decide (d.day <day))||(((d.cl==i)&&(d.ix==k))&&decide (d.day <day))):=by
    rw[oW,hd,List.any_append];simp
   rw[ht,←Bool.or_assoc];generalize (out||(r.dates.take j).any λd=>((d.cl==i)&&(d.ix==k))&&decide (d.day <day))=B at*
   obtain⟨dc,dx,dd,df⟩:=d;simp[h1,AD];simp only[AA 166 14];simp[hd,Dat.V,AO];simp only[AA 166 15];cases B with
   |true=>
    simp;simp[AA 166 13,hw]
   |false=>
    by_cases c1:dc=i
    ·by_cases c2:dx=k
     ·by_cases c3:dd <day<;>(simp[c1,c2,c3];simp[AA 166 13,hw])
     ·simp[c1,c2];simp[AA 166 13,hw];exact λh=>absurd h c2
    ·simp[c1];simp[AA 166 13,hw];exact λh=>absurd h c1
  ·have hk2:j=r.dates.length:=by omega
   subst hk2;rw[od];simp only[Rgt.row,AH]at hQ;simp[AJ];exact hQ _ _ rfl rfl rfl rfl rfl rfl rfl rfl
variable {pa:List V}
theorem jE {I:Int→Int→Bool} (hp:pa.length≤2^40) (hI:∀a b:Int,0≤a→a <pa.length→0≤b→b <pa.length→PX 311 [.list pa,.int .i64 a,.int .i64 b] [.bool (I a b)])
  (r:Rgt) (hr:AltOK r.claims) (hok:∀c∈r.claims,c.ok) (hz:CD r.claims=0) (hd:r.dates.length≤2^40) (i:Nat) (hi:i <r.claims.length) (t:Th) (ht:t.ok) (hs:t.size≤2^40) (hal:∀f∈Bm r.claims i,f.ok∧IL pa.length f t=0) (hl:(Bm r.claims i).length≤64) (day:Int):
  PX 166 [.list pa,r.V,.int .i64 i,t.V,.int .i64 day] [.bool (T7 I t r i day),.int .i64 0]:=by
 refine BJ 166 ?_;have q1:=(gL r.claims hr hok hz i hi).fsp;have q2:=λf hf=>XS hp hI f (hal f hf).1 t ht hs;unfold T7;generalize Bm r.claims i=al at*;have hin:=λv0 v12 k tr out b J Q=>kP v0 v12 r hd i k day tr out b J Q;obtain⟨tc,tv,tp⟩:=t;simp only[Th.V_eq,Rgt.V,Rgt.cs,AH,Rgt.row]at*;simp at q1;simp only[Zw,Ai 166,AA 166 0,AA 166 1,AX];simp;refine⟨_,_,q1 _,?_⟩;simp[AA 166 2,AD,AA 166 4,AA 166 5];refine AY al.length (λk s=>∃J,s=⟨[(0,.v (.list pa)),(2,.v (.int .i64 i)),(4,.v (.int .i64 day)),(6,.ref 0 0),(8,.ref 1 0),(12,.v (.list (al.map F.V))),(14,.v (.bool (HT I (.mk tc tv tp) r i day 0 (al.take k)))),(15,.v (.int .i64 k))],
  .cells [.v (.int .i64 r.file),.v (.int .i64 r.state),.v (.int .i64 r.force),.v (.list (r.claims.map Clm.V)),.v (.list (r.dates.map Dat.V)),.v (.list (r.bad.map (.int .i64))),.v (.list (r.owners.map Own.V)),.v (.list (r.lics.map Lic.V))]:: .cells [.v (.list (tc.map (.int .i64))),.v (.list (tv.map Val.V)),.v (.list (tp.map Th.V))]::J⟩) ⟨[],by simp[HT]⟩ ?_
 rintro k s hk ⟨J,rfl⟩;simp only[Zw,A8 166 0,AA 166 6];by_cases h1:k <al.length
 ·obtain⟨f,hf⟩:∃f,al[k]?=some f:=⟨_,oI h1⟩;have hfm:=oK hf;have hw:=Bb k;have q:=q2 f hfm;rw[(hal f hfm).2]at q;simp only[decide_true,pB]at q;have ht:HT I (.mk tc tv tp) r i day 0 (al.take (k+1))=(HT I (.mk tc tv tp) r i day 0 (al.take k)||(f.hold I (.mk tc tv tp)&&Pz r i k day)):=by
   have hl:(al.take k).length=k:=by rw[ol];omega
   rw[oW,hf,Option.toList_some,Lf,hl,px]
  rw[ht];generalize HT I (.mk tc tv tp) r i day 0 (al.take k)=B at*;generalize f.hold I (.mk tc tv tp)=b at*;obtain⟨fo,fn,fi,fk⟩:=f;simp only[F.V_eq]at q;simp[h1,AD];simp only[AS,AA 166 8];simp[hf,F.V_eq];refine⟨_,_,⟨rfl,rfl⟩,_,q,?_⟩;simp[AA 166 9,AA 166 11];refine hin _ _ _ _ _ _ _ _ ?_;intro e J f0 f2 f4 f6 f8 f12 f14 f15;simp[AA 166 7,f0,f2,f4,f6,f8,f12,f14,f15,hw]
 ·have hk2:k=al.length:=by omega
  subst hk2;rw[od];simp[AJ,AA 166 16,AB,AW 166]
end
theorem eU (pa:V) (x:Ext) (hk:x.kind=0):PX 77 [pa,x.V] [.list [],.list [],.int .i64 0]:=by
 refine BJ 77 ?_;simp only[Ai 77,AE,AF,AK,AA 77 0,AA 77 1,AX,Ext.V,Ext.cs];simp[hk,AA 77 2,AB,AW 77]
theorem ju (x:Ext) (r:Rgt) (i:Nat) (hr:x.rs[i]?=some r) (ho:r.owners.length <2^40) (d7:D) (Q:AExit→St→Prop)
  (hQ:∀e,AG e 3= .ref 0 0→AG e 7=d7→AG e 8= .v (.int .i64 i)→AG e 9= .v (.bool (r.owners.any λo=>o.party==x.party))→Q (.exit 2) ⟨e,[x.row]⟩):
  awp Tryz.prog Ah (.loop (lG 77 1)) Q ⟨[(3,.ref 0 0),(7,d7),(8,.v (.int .i64 i)),(9,.v (.bool false)),(10,.v (.int .i64 (0:Nat)))],[x.row]⟩:=by
 refine AN r.owners.length (λk=>⟨[(3,.ref 0 0),(7,d7),(8,.v (.int .i64 i)),(9,.v (.bool ((r.owners.take k).any λo=>o.party==x.party))),(10,.v (.int .i64 k))],[x.row]⟩) (by simp) ?_;intro k hk;obtain⟨kind,file,party,day,t,rs,cl,fs,L,R,S⟩:=x;obtain⟨rf,rst,rfo,rcl,rda,rba,row,rli⟩:=r;simp only[Ext.row,Ext.cs,AH]at*;simp only[Zw,A8 77 1,AA 77 10];simp[hr,Rgt.V,Rgt.cs];by_cases h1:k <row.length
 ·obtain⟨o,hox⟩:∃o,row[k]?=some o:=⟨_,oI h1⟩;have hw:=Bb k;have ht:((row.take (k+1)).any λo=>o.party==party)=(((row.take k).any λo=>o.party==party)||(o.party==party)):=by
   rw[oW,hox,List.any_append];simp
  rw[ht];generalize ((row.take k).any λo=>o.party==party)=B at*;simp[h1,AD];simp only[AS,AA 77 12];cases B with
  |true=>
   simp;simp[AA 77 11,hw]
  |false=>
   simp[hr,hox,Rgt.V,Rgt.cs,Own.V];simp[AA 77 11,hw]
 ·have hk2:k=row.length:=by omega
  subst hk2;rw[if_neg (by omega),AJ];rw[od];exact hQ _ rfl rfl rfl rfl
theorem eV (pa:V) (x:Ext) (hk:x.kind=2) (hn:x.rs.length≤2^20) (ho:∀r∈x.rs,r.owners.length <2^40):PX 77 [pa,x.V] [.list [],AH .i64 (CY x.party x.rs),.int .i64 0]:=by
 refine BJ 77 ?_;have hin:=λr i hr d7 Q=>ju x r i hr (ho r (oK hr)) d7 Q;obtain⟨kind,file,party,day,t,rs,cl,fs,L,R,S⟩:=x;simp only[Ext.row,Ext.cs,AH]at*;subst hk;simp only[Zw,Ai 77,AA 77 0,AA 77 1,AX,Ext.V,Ext.cs];simp[AD,AA 77 3,AA 77 4,AA 77 5,AH];refine AN rs.length (λk=>⟨[(3,.ref 0 0),(7,.own 3 1 ((CY party (rs.take k)).map (.int .i64))),(8,.v (.int .i64 k))],[(Ext.mk 2 file party day t rs cl fs L R S).row]⟩) (by simp[CY,Ext.row,Ext.cs,AH]) ?_;intro k hk;simp only[Zw,A8 77 0,AA 77 6,Ext.row,Ext.cs,AH];simp;by_cases h1:k <rs.length
 ·obtain⟨r,hr⟩:∃r,rs[k]?=some r:=⟨_,oI h1⟩;have hw:=Bb k;have hfl:CY party (rs.take (k+1))=CY party (rs.take k)++if (r.owners.any λo=>o.party==party) then [r.file] else []:=by
   rw[oW,hr];unfold CY;rw[pw,oh];cases h2:r.owners.any (λo=>o.party==party)<;>simp[h2]
  have hlen:(CY party (rs.take k)).length≤k:=by
   unfold CY;have:=pG (λr=>r.owners.any λo=>o.party==party) (rs.take k);rw[ol]at this;rw[oi];omega
  rw[hfl];generalize CY party (rs.take k)=L0 at*;have hroom:AU (L0.length+1) 8=true:=by simp[AU];omega
  have hin:=hin r k hr;generalize (r.owners.any λo=>o.party==party)=B at*;simp at hin;simp[h1,AD,AA 77 8,AA 77 9];refine hin _ _ ?_;intro e h3 h7 h8 h9;simp[AA 77 13,h3,h7,h8,h9];obtain⟨rf,rst,rfo,rcl,rda,rba,row,rli⟩:=r;cases B with
  |false=>simp[AA 77 7,hw]
  |true=>
   simp[AA 77 14,hr,Rgt.V,Rgt.cs,hroom];simp[AA 77 7,hw]
 ·have hk2:k=rs.length:=by omega
  subst hk2;rw[if_neg (by omega),AJ,od];simp[AA 77 15,AB,AW 77]
theorem eY (pa:List V) (x:Ext) (cl:List (Int×Int)) (E:Int) (hk:x.kind=1∨x.kind=3∧E≠0) (q73:PX 73 [.list pa,.list (x.rs.map Rgt.V),x.t.V] [.list (cl.map Bn),.int .i64 E]):
  PX 77 [.list pa,x.V] [.list (cl.map Bn),.list [],.int .i64 E]:=by
 refine BJ 77 ?_;obtain⟨kind,file,party,day,⟨tc,tv,tp⟩,rs,cl0,fs,L,R,S⟩:=x;have q:=q73.fsp;simp only[Th.V_eq]at*;have k0:¬kind=0:=by omega
 have k2:¬kind=2:=by omega
 simp at q;simp only[Ai 77,AE,AF,AK,AA 77 0,AA 77 1,AX,Ext.V,Ext.cs,Th.cs,Th.vs,Th.ps,AH]at*;simp[k0,AD,AA 77 3,k2];simp only[AA 77 16];simp;refine⟨_,_,q _,?_⟩;simp only[AA 77 17];by_cases hE:E=0
 ·have k1:kind=1:=by omega
  simp[hE,k1,AA 77 18,AB,AW 77]
 ·simp[hE,AA 77 18,AB,AW 77]
theorem jt (v0:V) (x:Ext) (cl:List (Int×Int)) (c:Int×Int) (i:Nat) (hc:cl[i]?=some c) (j:Nat) (r:Rgt) (hr:x.rs[j]?=some r) (hrf:r.file=c.1) (hne:∀k q,k <j→x.rs[k]?=some q→q.file≠c.1) (hj:j <2^40) (d13:D) (Q:AExit→St→Prop)
  (hQ:∀e,AG e 0= .v v0→AG e 3= .ref 0 0→AG e 11= .v (.list (cl.map Bn))→AG e 13=d13→AG e 14= .v (.int .i64 i)→AG e 15= .v (.int .i64 j)→Q (.exit 6) ⟨e,[x.row]⟩):
  awp Tryz.prog Ah (.loop (lG 77 3)) Q ⟨[(0,.v v0),(3,.ref 0 0),(11,.v (.list (cl.map Bn))),(13,d13),(14,.v (.int .i64 i)),(15,.v (.int .i64 (0:Nat)))],[x.row]⟩:=by
 refine AN j (λk=>⟨[(0,.v v0),(3,.ref 0 0),(11,.v (.list (cl.map Bn))),(13,d13),(14,.v (.int .i64 i)),(15,.v (.int .i64 k))],[x.row]⟩) rfl ?_;intro k hk;obtain⟨kind,file,party,day,t,rs,cl0,fs,L,R,S⟩:=x;have hjl:j <rs.length:=(oM.1 hr).1;obtain⟨q,hq⟩:∃q,rs[k]?=some q:=⟨_,oI (by omega)⟩;have hqf:q.file=c.1↔k=j:=by
  constructor
  ·intro h;rcases om k j with h1|h1
   ·exact absurd h (hne k q h1 hq)
   ·omega
  ·rintro rfl;rw[hr]at hq;obtain rfl:=qv hq;exact hrf
 obtain⟨cf,ci⟩:=c;simp only[Ext.row,Ext.cs,AH]at*;simp only[A8 77 3,AE,AS,AM,AK,AA 77 24];obtain⟨rf,rst,rfo,rcl,rda,rba,row,rli⟩:=q;simp only at hqf;simp[hq,hc,Rgt.V,Rgt.cs,Bn];by_cases h1:k=j
 ·have h2:rf=cf:=hqf.2 h1;subst h1;simp[h2,AJ];exact hQ _ rfl rfl rfl rfl rfl rfl
 ·have h2:¬rf=cf:=λh=>h1 (hqf.1 h);have hw:=Bb k;simp[h2,AD,AF,AA 77 25,hw];omega
theorem eW (pa:List V) (x:Ext) (hk:x.kind=3) (cl:List (Int×Int)) (hcl:cl.length≤2^20) (q73:PX 73 [.list pa,.list (x.rs.map Rgt.V),x.t.V] [.list (cl.map Bn),.int .i64 0]) (b:Int×Int→Bool)
  (hf:∀c∈cl,∃j r,x.rs[j]?=some r∧r.file=c.1∧(∀k q,k <j→x.rs[k]?=some q→q.file≠c.1)∧j <2^40∧PX 166 [.list pa,r.V,.int .i64 c.2,x.t.V,.int .i64 x.day] [.bool (b c),.int .i64 0]):
  PX 77 [.list pa,x.V] [.list ((cl.filter b).map Bn),.list [],.int .i64 0]:=by
 refine BJ 77 ?_;have hin:=λc i hc j r hr hrf hne hj d13 Q=>jt (.list pa) x cl c i hc j r hr hrf hne hj d13 Q;obtain⟨kind,file,party,day,⟨tc,tv,tp⟩,rs,cl0,fs,L,R,S⟩:=x;have q:=q73.fsp;simp only[Th.V_eq,Th.cs,Th.vs,Th.ps,Ext.row,Ext.cs,AH]at*;subst hk;simp at q;simp only[Zw,Ai 77,AA 77 0,AA 77 1,AX,Ext.V,Ext.cs,Th.cs,Th.vs,Th.ps,AH]at*;simp[AD,AA 77 3];simp only[AA 77 16];simp;refine⟨_,_,q _,?_⟩;simp only[AA 77 17];simp[AA 77 19,AA 77 20];refine AN cl.length (λk=>⟨[(0,.v (.list pa)),(3,.ref 0 0),(11,.v (.list (cl.map Bn))),(13,.own 186 2 (((cl.take k).filter b).map Bn)),(14,.v (.int .i64 k))],[.cells ((Ext.mk 3 file party day (.mk tc tv tp) rs cl0 fs L R S).cs.map .v)]⟩) (by simp[Ext.cs,AH,Th.cs,Th.vs,Th.ps]) ?_;intro k hk;simp only[Zw,A8 77 2,AA 77 21,Ext.cs,AH,Th.cs,Th.vs,Th.ps];simp;by_cases h1:k <cl.length
 ·obtain⟨c,hc⟩:∃c,cl[k]?=some c:=⟨_,oI h1⟩;obtain⟨j,r,hr,hrf,hne,hj,q166⟩:=hf c (oK hc);have hw:=Bb k;have hfl:(cl.take (k+1)).filter b=(cl.take k).filter b++if b c then [c] else []:=by
   rw[oW,hc,pw];cases h2:b c<;>simp[h2]
  have hlen:=pG b (cl.take k);rw[ol]at hlen;rw[hfl];generalize (cl.take k).filter b=L0 at*;have hroom:AU (L0.length+1) 16=true:=by simp[AU];omega
  have hin:=hin c k hc j r hr hrf hne hj;simp at hin;obtain⟨cf,ci⟩:=c;obtain⟨rf,rst,rfo,rcl,rda,rba,row,rli⟩:=r;simp[Rgt.V,Rgt.cs,AH]at q166;generalize b (cf,ci)=B at*;simp[h1,AD,AA 77 23];refine hin _ _ ?_;intro e h0 h3 h11 h13 h14 h15;simp only[AS,AA 77 26];simp[h0,h3,h11,h14,h15,hr,hc,Rgt.V,Rgt.cs,Bn,AH];refine⟨_,_,⟨rfl,rfl⟩,_,q166,?_⟩;simp[AA 77 27,AA 77 29,h0,h3,h11,h13,h14];cases B with
  |false=>simp[AA 77 22,hw]
  |true=>
   simp[AA 77 30,hc,Bn,hroom];simp[AA 77 22,hw]
 ·have hk2:k=cl.length:=by omega
  subst hk2;rw[if_neg (by omega),AJ,od];simp[AA 77 31,AB,AW 77]
def Dx (kind file party day:Int) (t:Th):Ext:=⟨kind,file,party,day,t,[],[],[],[],[],[]⟩
theorem mr (x:Ext):PX 75 [x.V] [.int .i64 (if x.kind=0 then x.file else 0),.int .i64 (if x.kind=0 then x.file else 4095)]:=by
 refine BJ 75 ?_;obtain⟨kind,file,party,day,t,rs,cl,fs,L,R,S⟩:=x;simp only[Ai 75,AE,AF,AK,AA 75 0,AA 75 1,AX,Ext.V,Ext.cs];by_cases h:kind=0
 ·simp[h,AS,AA 75 2,AB,AW 75,AH]
 ·simp[h,AD,AA 75 3,AB,AW 75,AH]
theorem eZ (n:Int):PX 74 [(Dx 0 n 0 0 (.mk [] [] [])).V] [.int .i64 (if n <0∨4095 <n then 5 else 0)]:=by
 refine BJ 74 ?_;simp only[Ai 74];rw[AE,AF];simp only[AA 74 0,AX,Ext.V,Ext.cs,Dx,Th.cs,Th.vs,Th.ps,AH];simp;rw[AE,AF];simp only[AA 74 1];simp;rw[AE,AF];simp only[AA 74 2];simp;rw[AE,AE,AF];simp only[AA 74 3];simp;rw[AK];simp[AD];rw[AE,AE,AF];simp only[AA 74 5];by_cases h1:n <0
 ·simp[h1,AK,AE,AF,AA 74 6,AB,AW 74]
 ·by_cases h2:4095 <n
  ·simp[h1,h2,AK,AE,AF,AA 74 6,AB,AW 74]
  ·simp[h1,h2,AK,AD];rw[AE,AE,AF];simp only[AA 74 7];simp[AK,AD,AE,AF,AA 74 9,AB,AW 74]
theorem ea (n:Int):PX 74 [(Dx 2 0 n 0 (.mk [] [] [])).V] [.int .i64 (if n <1∨4095 <n then 1 else 0)]:=by
 refine BJ 74 ?_;simp only[Ai 74];rw[AE,AF];simp only[AA 74 0,AX,Ext.V,Ext.cs,Dx,Th.cs,Th.vs,Th.ps,AH];simp;rw[AE,AF];simp only[AA 74 1];simp;rw[AE,AF];simp only[AA 74 2];simp;rw[AE,AE,AF];simp only[AA 74 3];simp;rw[AK];simp[AD];rw[AE,AE,AF];simp only[AA 74 5];simp[AK,AD];rw[AE,AE,AF];simp only[AA 74 7];by_cases h1:n <1
 ·simp[h1,AK,AE,AF,AA 74 8,AB,AW 74]
 ·by_cases h2:4095 <n
  ·simp[h1,h2,AK,AE,AF,AA 74 8,AB,AW 74]
  ·simp[h1,h2,AK,AD,AE,AF,AA 74 9,AB,AW 74]
theorem ef (t:Th):PX 74 [(Dx 1 0 0 0 t).V] [.int .i64 0]:=by
 refine BJ 74 ?_;obtain⟨cs,vs,ps⟩:=t;simp only[Ai 74];rw[AE,AF];simp only[AA 74 0,AX,Ext.V,Ext.cs,Dx,Th.cs,Th.vs,Th.ps,AH];simp;rw[AE,AF];simp only[AA 74 1];simp;rw[AE,AF];simp only[AA 74 2];have n1:∀m:Nat,¬((m:Int)+1=0):=by omega
 have n2:∀m:Nat,(((m:Int)+1==0)=false):=λm=>by simpa using n1 m
 cases cs<;>cases vs<;>simp[n2]
 all_goals
  rw[AE,AE,AF];simp only[AA 74 3];simp;rw[AK];simp[AD];rw[AE,AE,AF];simp only[AA 74 5];simp[AK,AD];rw[AE,AE,AF];simp only[AA 74 7];simp[AK,AD,AE,AF,AA 74 9,AB,AW 74]
theorem ed (n:Int) (t:Th):PX 74 [(Dx 3 0 0 n t).V] [.int .i64 (if n <0∨131072 <n then 5 else 0)]:=by
 refine BJ 74 ?_;obtain⟨cs,vs,ps⟩:=t;simp only[Ai 74];rw[AE,AF];simp only[AA 74 0,AX,Ext.V,Ext.cs,Dx,Th.cs,Th.vs,Th.ps,AH];simp;rw[AE,AF];simp only[AA 74 1];simp;rw[AE,AF];simp only[AA 74 2];have n1:∀m:Nat,¬((m:Int)+1=0):=by omega
 have n2:∀m:Nat,(((m:Int)+1==0)=false):=λm=>by simpa using n1 m
 cases cs<;>cases vs<;>simp[n2]
 all_goals
  rw[AE,AE,AF];simp only[AA 74 3];simp;rw[AK];simp[AD];rw[AE,AE,AF];simp only[AA 74 5];by_cases h1:n <0
  ·simp[h1,AK,AE,AF,AA 74 6,AB,AW 74]
  ·by_cases h2:131072 <n
   ·simp[h1,h2,AK,AE,AF,AA 74 6,AB,AW 74]
   ·simp[h1,h2,AK,AD];rw[AE,AE,AF];simp only[AA 74 7];simp[AK,AD,AE,AF,AA 74 9,AB,AW 74]
def GE (a b:Int) (rs:List Rgt):List Rgt:=rs.filter λr=>decide (a≤r.file∧r.file≤b)
def KT (kind f p d:Int) (a4 a5 a6:D) (rs:List Rgt):Row:= .cells [.v (.int .i64 kind),.v (.int .i64 f),.v (.int .i64 p),.v (.int .i64 d),a4,a5,a6,.own 32 8 (rs.map Rgt.V),.own 186 2 [],.own 3 1 [],.own 47 1 [],.own 47 1 [],.own 5 1 []]
def Fb:Row:= .cells [.v (.int .i64 0),.v (.int .i64 0),.v (.int .i64 0),.v (.int .i64 0),.own 3 1 [],.own 171 3 [],.own 58 3 [],.own 32 8 [],.own 186 2 [],.own 3 1 [],.own 47 1 [],.own 47 1 [],.own 5 1 []]
theorem np (h:List Row) (g m:Nat) (pa:V) (rs:List Rgt) (hg:h[g]?=some (.cells [.v pa,.own 32 8 (rs.map Rgt.V),.ref m 0])) (hn:rs.length≤2^20) (kind f p d a b:Int) (a4 a5 a6:D) (R7 R8:Row) (Q:AExit→St→Prop)
  (hQ:∀e,AG e 0= .ref g 0→AG e 8= .ref (h.length+1) 0→AG e 10= .ref (h.length+2) 0→AG e 14= .v (.int .i64 a)→AG e 15= .v (.int .i64 b)→Q (.exit 1) ⟨e,h++[R7,R8,KT kind f p d a4 a5 a6 (GE a b rs)]⟩):
  awp Tryz.prog Ah (.loop (lG 28 0)) Q ⟨[(0,.ref g 0),(8,.ref (h.length+1) 0),(10,.ref (h.length+2) 0),(14,.v (.int .i64 a)),(15,.v (.int .i64 b)),(16,.v (.int .i64 (0:Nat)))],h++[R7,R8,KT kind f p d a4 a5 a6 []]⟩:=by
 have hg':=λZ=>AV Z hg;refine AN rs.length (λk=>⟨[(0,.ref g 0),(8,.ref (h.length+1) 0),(10,.ref (h.length+2) 0),(14,.v (.int .i64 a)),(15,.v (.int .i64 b)),(16,.v (.int .i64 k))],h++[R7,R8,KT kind f p d a4 a5 a6 (GE a b (rs.take k))]⟩) (by simp[GE]) ?_;intro k hk;simp only[Zw,A8 28 0,AA 28 19];simp[hg'];by_cases h1:k <rs.length
 ·obtain⟨r,hr⟩:∃r,rs[k]?=some r:=⟨_,oI h1⟩;have hw:=Bb k;have hfl:GE a b (rs.take (k+1))=GE a b (rs.take k)++if a≤r.file∧r.file≤b then [r] else []:=by
   unfold GE;rw[oW,hr,pw]
   congr 1
   by_cases h2:a≤r.file∧r.file≤b<;>simp[h2]
  have hlen:=pG (λr:Rgt=>decide (a≤r.file∧r.file≤b)) (rs.take k);rw[ol]at hlen;have hlen2:(GE a b (rs.take k)).length≤rs.length:=by unfold GE;omega
  rw[hfl];generalize GE a b (rs.take k)=L at*;have hroom:AU (L.length+1) 144=true:=by simp[AU];omega
  obtain⟨rf,rst,rfo,rcl,rda,rba,row,rli⟩:=r;simp only at*;simp[h1,AD];simp only[AA 28 21];simp[hg',hr,Rgt.V,Rgt.cs];by_cases c1:a≤rf
  ·by_cases c2:rf≤b
   ·simp[c1,c2];simp only[AS,AA 28 22,KT];simp[hg',hr,Rgt.V,Rgt.cs,hroom];simp[AA 28 20,hw,AH]
   ·simp[c1,c2];simp[AA 28 20,hw]
  ·have c3:rf <a:=by omega
   simp[c1,c3];simp[AA 28 20,hw]
 ·have hk2:k=rs.length:=by omega
  subst hk2;rw[if_neg (by omega),AJ,od];exact hQ _ rfl rfl rfl rfl rfl
def Lv:Th:= .mk [] [] []
def ZA (t:Th) (a4 a5 a6:D):Prop:=(a4= .own 3 1 []∧a5= .own 171 3 []∧a6= .own 58 3 []∧t=Lv)∨(a4= .v (AH .i64 t.cs)∧a5= .v (.list (t.vs.map Val.V))∧a6= .v (.list (t.ps.map Th.V)))
def Ve:AC:=(.seq (.reg (oG 28 14) [0,8,10,13]) (.seq (.seq (.reg (oG 28 15) [0,8,10,13,63]) (.cond (.t 63 false) (.seq (.reg (oG 28 16) [8,9]) .ret) .skip)) (.seq (.reg (oG 28 17) [0,8,10,14,15]) (.seq (.seq (.reg (oG 28 18) [0,8,10,14,15,16]) (.block 1 (.loop (lG 28 0)))) (.seq (.reg (oG 28 23) [0,8,10]) (.seq (.regD (oG 28 24) [8,10,17,18,19] [[],[0],[0,1],[0,1,2],[],[0,1,2,3,4],[0,1,2,3,4,5],[0,1,2,3,4,5,6],[0,1,2,3,4,5,6],[0,1,2,3,4,5,6],[0,1,2,3,4,5,6,7],[0,1,2,3,4,5,6,7,8,10],[0,1,2,3,4,5,6,7,8,9,10,11]]) (.seq (.seq (.reg (oG 28 25) [8,10,17,18,19,133]) (.cond (.t 133 false) (.seq (.reg (oG 28 26) [8,9]) .ret) .skip)) (.seq (.reg (oG 28 27) [8,10,18]) (.seq (.reg (oG 28 28) [8,10]) (.seq (.reg (oG 28 29) [8,9]) .ret))))))))))
def Es:Ext:=Dx 0 0 0 0 (.mk [] [] [])
def JZ (E:Int) (x:Ext):Ext:=if E=0 then x else Es
def Vu (h:List Row) (X:V) (E:Int):AExit→St→Prop:=λe s=>(match e with| .exit _=>False|_=>True)∧DG s (gR 28)=some [.v X,.v (.int .i64 E)]∧∃J,s.h=h++J
theorem t28 (h:List Row) (hl:Low h) (g m:Nat) (pa:V) (rs:List Rgt) (hg:h[g]?=some (.cells [.v pa,.own 32 8 (rs.map Rgt.V),.ref m 0])) (hn:rs.length≤2^20) (ps:List (Int×List Int)) (hm:h[m]?=some (G0 ps)) (hpn:ps.length≤2^40) (hok:∀p∈ps,PY p)
  (kind f p d:Int) (t0:Th) (a4 a5 a6:D) (hT:ZA t0 a4 a5 a6)
  (E1:Int) (q74:PX 74 [(Dx kind f p d t0).V] [.int .i64 E1]) (a b:Int) (ha:a=if kind=0 then f else 0) (hb:b=if kind=0 then f else 4095) (hab:E1=0→a≤b) (cl:List (Int×Int)) (fs:List Int) (E3:Int) (L R S:List Int) (hL:EB (DV ps) a (Cr a b 12 0)=L) (hR:D9 (DV ps) a (Cr a b 12 0)=R) (hS:Cn (DV ps) (Cr a b 12 0)=S) (E':Int) (hE':E'=if E1=0 then E3 else E1)
  (q77:E1=0→PX 77 [pa,(Ext.mk kind f p d t0 (GE a b rs) [] [] L R S).V] [.list (cl.map Bn),AH .i64 fs,.int .i64 E3]) (R7:Row) (hR7:∀n,Row.low n R7=true):
  ∀e0:CB,AG e0 0= .ref g 0→AG e0 8= .ref (h.length+1) 0→AG e0 10= .ref (h.length+2) 0→awp Tryz.prog Ah Ve (Vu h (JZ E' ⟨kind,f,p,d,t0,GE a b rs,cl,fs,L,R,S⟩).V E') ⟨e0,h++[R7,Fb,KT kind f p d a4 a5 a6 []]⟩:=by
 intro e0 g0 g8 g10;have hg':=λZ=>AV Z hg;have q75:=(mr (Dx kind f p d t0)).fsp;have q74:=q74.fsp;have hloop:=λQ=>np h g m pa rs hg hn kind f p d a b a4 a5 a6 R7 Fb Q;have hlow:Low (h++[R7,Fb,KT kind f p d a4 a5 a6 (GE a b rs)]):=hl.lows (by
  intro row hrow n;have hlo:D.lt n a4=true∧D.lt n a5=true∧D.lt n a6=true:=by
   rcases hT with ⟨rfl,rfl,rfl,_⟩|⟨rfl,rfl,rfl⟩<;>exact⟨rfl,rfl,rfl⟩
  obtain⟨l4,l5,l6⟩:=hlo;simp only[oO,o7,or_false]at hrow;rcases hrow with rfl|rfl|rfl
  ·exact hR7 n
  ·rfl
  ·simp[KT,Row.low,D.lts,D.lt,l4,l5,l6])
 have q76:=λh=>mq _ hlow m ps (AV _ hm) hpn hok a b h;have e1:(Dx kind f p d t0).kind=kind:=rfl;have e2:(Dx kind f p d t0).file=f:=rfl;rw[e1,e2,←ha,←hb]at q75;have v74:(Dx kind f p d t0).V= .agg [.int .i64 kind,.int .i64 f,.int .i64 p,.int .i64 d,AH .i64 t0.cs,.list (t0.vs.map Val.V),.list (t0.ps.map Th.V),.list [],.list [],.list [],.list [],.list [],.list []]:=rfl;have vN:Es.V= .agg [.int .i64 0,.int .i64 0,.int .i64 0,.int .i64 0,.list [],.list [],.list [],.list [],.list [],.list [],.list [],.list [],.list []]:=rfl;rw[v74]at q74 q75;have eN:(JZ E' ⟨kind,f,p,d,t0,GE a b rs,cl,fs,L,R,S⟩).V=if E'=0 then (Ext.mk kind f p d t0 (GE a b rs) cl fs L R S).V else Es.V:=by unfold JZ;split<;>rfl
 rw[eN,vN];clear eN ha hb e1 e2 v74 vN;unfold Vu;simp only[Si]at q76;simp only[Ext.V,Ext.cs]at q77 ⊢;rw[hL,hR,hS]at q76;clear hL hR hS;generalize GE a b rs=rs' at*;rcases hT with ⟨rfl,rfl,rfl,rfl⟩|⟨rfl,rfl,rfl⟩
 ·simp only[Lv]at*;simp only[KT,Fb,Th.cs,Th.vs,Th.ps,AH]at*;simp at q74 q75;simp only[Zw,Ve,AA 28 14];simp[g0,g8,g10];refine⟨_,_,q74 _,?_⟩;simp only[AA 28 15];by_cases hE:E1=0
  ·have q76:=q76 (hab hE);have q77:=(q77 hE).fsp;subst hE;rw[if_pos rfl]at hE';subst E';simp at q77 hloop;simp[AD,AA 28 17];refine⟨_,_,q75 _,?_⟩;simp[AA 28 18];refine hloop _ ?_;intro e f0 f8 f10 f14 f15;simp only[AA 28 23];simp[f0,f10,f14,f15,hg'];refine⟨_,_,q76,?_⟩;simp[AO];simp only[AS,AA 28 24];simp[f0,f8,f10,hg'];refine⟨_,_,⟨rfl,rfl⟩,_,q77,?_⟩;simp only[AA 28 25];by_cases hE3:E3=0
   ·subst hE3;simp[AA 28 27,AO];simp[AA 28 28,AO];simp[AA 28 29,AO,AB,AW 28,D.one?,D.vs?,D.v?]
   ·simp[hE3,AA 28 26,AO,AB,AW 28,D.one?,D.vs?,D.v?]
  ·rw[if_neg hE]at hE';subst E';simp[hE,AA 28 16,AO,AB,AW 28,D.one?,D.vs?,D.v?]
 ·obtain⟨tc,tv,tp⟩:=t0;simp only[KT,Fb,Th.cs,Th.vs,Th.ps,AH]at*;simp at q74 q75;simp only[Zw,Ve,AA 28 14];simp[g0,g8,g10];refine⟨_,_,q74 _,?_⟩;simp only[AA 28 15];by_cases hE:E1=0
  ·have q76:=q76 (hab hE);have q77:=(q77 hE).fsp;subst hE;rw[if_pos rfl]at hE';subst E';simp at q77 hloop;simp[AD,AA 28 17];refine⟨_,_,q75 _,?_⟩;simp[AA 28 18];refine hloop _ ?_;intro e f0 f8 f10 f14 f15;simp only[AA 28 23];simp[f0,f10,f14,f15,hg'];refine⟨_,_,q76,?_⟩;simp[AO];simp only[AS,AA 28 24];simp[f0,f8,f10,hg'];refine⟨_,_,⟨rfl,rfl⟩,_,q77,?_⟩;simp only[AA 28 25];by_cases hE3:E3=0
   ·subst hE3;simp[AA 28 27,AO];simp[AA 28 28,AO];simp[AA 28 29,AO,AB,AW 28,D.one?,D.vs?,D.v?]
   ·simp[hE3,AA 28 26,AO,AB,AW 28,D.one?,D.vs?,D.v?]
  ·rw[if_neg hE]at hE';subst E';simp[hE,AA 28 16,AO,AB,AW 28,D.one?,D.vs?,D.v?]
theorem P5:(gA 28)= .seq (.reg (oG 28 0) [0,1,2,7,8]) (.seq (.reg (oG 28 1) [0,1,2,7,8,10]) (.seq (.seq (.reg (oG 28 2) [0,1,2,7,8,10,22]) (.block 0 (.seq (.reg (oG 28 3) [0,1,2,7,8,10,22,23]) (.cond (.t 23 false) (.reg (oG 28 4) [0,1,7,8,10]) (.seq (.reg (oG 28 5) [0,1,2,7,8,10,22,27]) (.cond (.t 27 false) (.reg (oG 28 6) [0,1,7,8,10]) (.seq (.reg (oG 28 7) [0,1,2,7,8,10,31]) (.cond (.t 31 false) (.reg (oG 28 8) [0,1,7,8,10]) .skip))))))))
  (.seq (.seq (.reg (oG 28 9) [0,7,8,10,40]) (.cond (.t 40 false) (.seq (.reg (oG 28 10) [0,7,8,10]) (.seq (.regD (oG 28 11) [0,8,10,12] [[],[0],[0,1],[0,1,2],[],[4],[4,5],[4,5,6],[],[0,1,2,3,4,5,6,7,8],[0,1,2,3,4,5,6,7,8,9],[0,1,2,3,4,5,6,7,8,9,10],[0,1,2,3,4,5,6,7,8,9,10],[0,1,2,3,4,5,6,7,8,9,10,11],[0,1,2,3,4,5,6,7,8,9,10,11,12,13]]) (.seq (.reg (oG 28 12) [0,8,10,12,57]) (.cond (.t 57 false) (.seq (.reg (oG 28 13) [8,9]) .ret) .skip)))) .skip)) Ve))):=rfl
def Nn (ps:List (Int×List Int)) (a b:Int):List Int:=EB (DV ps) a (Cr a b 12 0)
def Nm (ps:List (Int×List Int)) (a b:Int):List Int:=D9 (DV ps) a (Cr a b 12 0)
def M3 (ps:List (Int×List Int)) (a b:Int):List Int:=Cn (DV ps) (Cr a b 12 0)
def JU (n:Int):Int:=if n <0∨4095 <n then 5 else 0
def Hu (n:Int):Int:=if n <1∨4095 <n then 1 else 0
def L4 (n:Int):Int:=if n <0∨131072 <n then 5 else 0
section
variable {h:List Row} (hl:Low h) {g m:Nat} {pa:V} {rs:List Rgt} (hg:h[g]?=some (.cells [.v pa,.own 32 8 (rs.map Rgt.V),.ref m 0])) (hn:rs.length≤2^20) {ps:List (Int×List Int)} (hm:h[m]?=some (G0 ps)) (hpn:ps.length≤2^40) (hok:∀p∈ps,PY p) (n:Int) (t:Th)
include hl hg hn hm hpn hok
theorem fq:FX 28 [.ref g 0,.v (.int .i64 0),.v (.int .i64 n),.v t.V] h [.v (JZ (JU n) ⟨0,n,0,0,Lv,GE n n rs,[],[],Nn ps n n,Nm ps n n,M3 ps n n⟩).V,.v (.int .i64 (JU n))] h:=by
 refine Ak (D4 28) rfl (oN _) hl (by simp[D.lt]) ?_;have ht:=t28 h hl g m pa rs hg hn ps hm hpn hok 0 n 0 0 Lv (.own 3 1 []) (.own 171 3 []) (.own 58 3 []) (.inl ⟨rfl,rfl,rfl,rfl⟩) (JU n) (eZ n) n n rfl rfl (λ_=>Int.le_refl _) [] [] 0 (Nn ps n n) (Nm ps n n) (M3 ps n n) rfl rfl rfl (JU n) (by split<;>simp_all) (λ_=>eU pa _ rfl) (.cells t.cells) (λk=>G5 k t)
 change awp _ _ _ (Vu h (JZ (JU n) ⟨0,n,0,0,Lv,GE n n rs,[],[],Nn ps n n,Nm ps n n,M3 ps n n⟩).V (JU n)) _;rw[P5];generalize Vu h _ _=Q at*;obtain⟨cs,vs,tp⟩:=t;simp only[KT,Fb,Th.cells,Th.V_eq,Th.cs,Th.vs,Th.ps,AH]at*;simp only[Zw,AA 28 0,AQ];simp[AA 28 1,AO,AA 28 2,AA 28 3,AA 28 4,AA 28 9,AD];simp at ht;exact ht _ rfl rfl rfl
theorem fu (ho:∀r∈rs,r.owners.length <2^40):FX 28 [.ref g 0,.v (.int .i64 2),.v (.int .i64 n),.v t.V] h [.v (JZ (Hu n) ⟨2,0,n,0,Lv,GE 0 4095 rs,[],CY n (GE 0 4095 rs),Nn ps 0 4095,Nm ps 0 4095,M3 ps 0 4095⟩).V,.v (.int .i64 (Hu n))] h:=by
 refine Ak (D4 28) rfl (oN _) hl (by simp[D.lt]) ?_;have ht:=t28 h hl g m pa rs hg hn ps hm hpn hok 2 0 n 0 Lv (.own 3 1 []) (.own 171 3 []) (.own 58 3 []) (.inl ⟨rfl,rfl,rfl,rfl⟩) (Hu n) (ea n) 0 4095 rfl rfl (λ_=>by decide) [] (CY n (GE 0 4095 rs)) 0 (Nn ps 0 4095) (Nm ps 0 4095) (M3 ps 0 4095) rfl rfl rfl (Hu n) (by split<;>simp_all)
  (λ_=>eV pa _ rfl (pA (pG _ _) hn) λr hr=>ho r (qC.1 hr).1) (.cells t.cells) (λk=>G5 k t)
 change awp _ _ _ (Vu h (JZ (Hu n) ⟨2,0,n,0,Lv,GE 0 4095 rs,[],CY n (GE 0 4095 rs),Nn ps 0 4095,Nm ps 0 4095,M3 ps 0 4095⟩).V (Hu n)) _;rw[P5];generalize Vu h _ _=Q at*;obtain⟨cs,vs,tp⟩:=t;simp only[KT,Fb,Th.cells,Th.V_eq,Th.cs,Th.vs,Th.ps,AH]at*;simp only[Zw,AA 28 0,AQ];simp[AA 28 1,AO,AA 28 2,AA 28 3,AA 28 5,AA 28 6,AA 28 9,AD];simp at ht;exact ht _ rfl rfl rfl
theorem Zj (kind d:Int) (hk:kind=1∧d=0∨kind=3∧d=n) (L:List (Int×Int)) (E:Int) (q73:PX 73 [pa,.list (rs.map Rgt.V),t.V] [.list (L.map Bn),.int .i64 E]) (cl:List (Int×Int)) (E2:Int) (h2:E2=if E≠0 then E else if kind=1 then 0 else L4 n)
  (q77:E2=0→PX 77 [pa,(Ext.mk kind 0 0 d t (GE 0 4095 rs) [] [] (Nn ps 0 4095) (Nm ps 0 4095) (M3 ps 0 4095)).V] [.list (cl.map Bn),AH .i64 [],.int .i64 0]):
  FX 28 [.ref g 0,.v (.int .i64 kind),.v (.int .i64 n),.v t.V] h [.v (JZ E2 ⟨kind,0,0,d,t,GE 0 4095 rs,cl,[],Nn ps 0 4095,Nm ps 0 4095,M3 ps 0 4095⟩).V,.v (.int .i64 E2)] h:=by
 refine Ak (D4 28) rfl (oN _) hl (by simp[D.lt]) ?_;have q74:PX 74 [(Dx kind 0 0 d t).V] [.int .i64 (if kind=1 then 0 else L4 n)]:=by
  rcases hk with ⟨rfl,rfl⟩|⟨rfl,rfl⟩
  ·exact ef t
  ·exact ed d t
 have k0:¬kind=0:=by omega
 have k2:¬kind=2:=by omega
 have ht:=t28 h hl g m pa rs hg hn ps hm hpn hok kind 0 0 d t (.v (AH .i64 t.cs)) (.v (.list (t.vs.map Val.V))) (.v (.list (t.ps.map Th.V))) (.inr ⟨rfl,rfl,rfl⟩) _ q74 0 4095 (by rw[if_neg k0]) (by rw[if_neg k0]) (λ_=>by decide) cl [] 0 (Nn ps 0 4095) (Nm ps 0 4095) (M3 ps 0 4095) rfl rfl rfl E2;have hg':=λZ=>AV Z hg;change awp _ _ _ (Vu h (JZ E2 ⟨kind,0,0,d,t,GE 0 4095 rs,cl,[],Nn ps 0 4095,Nm ps 0 4095,M3 ps 0 4095⟩).V E2) _;rw[P5];have vN:Es.V= .agg [.int .i64 0,.int .i64 0,.int .i64 0,.int .i64 0,.list [],.list [],.list [],.list [],.list [],.list [],.list [],.list [],.list []]:=rfl;by_cases hE:E=0
 ·subst hE;rw[if_neg (by simp)]at h2;have ht2:=ht (by rw[h2];split<;>simp_all) (λh=>q77 (h2.trans h)) (.cells t.cells) (λk=>G5 k t)
  clear ht;generalize Vu h _ _=Q at*;clear q77 q74;obtain⟨cs,vs,tp⟩:=t;simp only[KT,Fb,Th.cells,Th.V_eq,Th.cs,Th.vs,Th.ps,AH]at*;simp only[Zw,AA 28 0,AQ];rcases hk with ⟨rfl,rfl⟩|⟨rfl,rfl⟩
  ·simp[AA 28 1,AO,AA 28 2,AA 28 3,AA 28 5,AA 28 7,AA 28 9,AD,AA 28 10];simp only[AS,AA 28 11];simp[hg'];refine⟨_,_,⟨rfl,rfl⟩,_,q73,?_⟩;simp[AA 28 12];simp at ht2;exact ht2 _ rfl rfl rfl
  ·simp[AA 28 1,AO,AA 28 2,AA 28 3,AA 28 5,AA 28 7,AA 28 8,AA 28 9,AD,AA 28 10];simp only[AS,AA 28 11];simp[hg'];refine⟨_,_,⟨rfl,rfl⟩,_,q73,?_⟩;simp[AA 28 12];simp at ht2;exact ht2 _ rfl rfl rfl
 ·rw[if_pos hE]at h2;subst h2;clear ht q77 q74;unfold JZ;rw[if_neg hE,vN];unfold Vu;obtain⟨cs,vs,tp⟩:=t;simp only[Th.V_eq,AH]at*
  try simp at q73
  simp only[Zw,AA 28 0,AQ];rcases hk with ⟨rfl,rfl⟩|⟨rfl,rfl⟩
  ·simp[AA 28 1,AO,AA 28 2,AA 28 3,AA 28 5,AA 28 7,AA 28 9,AD,AA 28 10];simp only[AS,AA 28 11];simp[hg'];refine⟨_,_,⟨rfl,rfl⟩,_,q73,?_⟩;simp[AA 28 12,hE,AA 28 13,AO,AB,AW 28,D.one?,D.vs?,D.v?]
  ·simp[AA 28 1,AO,AA 28 2,AA 28 3,AA 28 5,AA 28 7,AA 28 8,AA 28 9,AD,AA 28 10];simp only[AS,AA 28 11];simp[hg'];refine⟨_,_,⟨rfl,rfl⟩,_,q73,?_⟩;simp[AA 28 12,hE,AA 28 13,AO,AB,AW 28,D.one?,D.vs?,D.v?]
end
end Go.Va
