/- Part 8 of the proof that ExtractBetter returns true for every input and leaves its arguments alone. Condition: the variable that the row lists holds what the text of the program lays. Texts joined here: VwCd VsC VwBa VwBf VwBb VwBc VwBd VwBe VwBh VwBg VwEb VwEc VwEd VzF VyR VxL VyM VyK VyT VyU VzG VyX VzH VxG VxH VxI VxJ VxK VzI VyY VyW VyL VzJ VzK. -/
import Derived.Shelf.SlIterI.Sorted
import Derived.Shelf.SortM.Plain
import Derived.Shelf.SortM.SortNone
import Derived.Test.YtopldfpkgbkomaaGreatDoorL02
import Derived.Test.YtopldfpkgbkomaaGreatDoorL03
import Derived.Test.YtopldfpkgbkomaaGreatDoorL05
import Derived.Test.YtopldfpkgbkomaaGreatDoorL06
import Derived.Test.YtopldfpkgbkomaaGreatDoorL07
set_option linter.all false
set_option maxRecDepth 100000
namespace Go.Va
open Go.Proofs
theorem OS (d:Dat):[d.cl,d.ix,d.day,d.file].flatMap Ag=Bw d:=by simp[Bw]
theorem OQ (d:Own):[d.party,d.num,d.den].flatMap Ag=Bu d:=by simp[Bu]
theorem OR (d:Lic):[d.fr,d.to,d.fst,d.lst].flatMap Ag=Bv d:=by simp[Bv]
theorem Dd {α:Type} {f:α→List Int} (hf:∀x,(f x).length≤40):∀l:List α,(l.flatMap f).length≤40*l.length
 |[]=>by simp
 |x::l=>by
  have:=hf x;have:=Dd hf l;simp only[AT8,ATr,AUA];omega
theorem FH (d:Dat):(Bw d).length≤40:=by
 have:=An d.cl;have:=An d.ix;have:=An d.day;have:=An d.file;simp only[Bw,ATr];omega
theorem FE (d:Own):(Bu d).length≤40:=by
 have:=An d.party;have:=An d.num;have:=An d.den;simp only[Bu,ATr];omega
theorem FF (d:Lic):(Bv d).length≤40:=by
 have:=An d.fr;have:=An d.to;have:=An d.fst;have:=An d.lst;simp only[Bv,ATr];omega
theorem AIt (C:Row) (ds:List Dat) (hds:∀d∈ds,d.ok) (hn:ds.length≤2^30) (X:List Int) (hX:X.length≤2^43) (J:List Row):
  awp Tryz.prog GLx (.loop Y9) (λe s=>e= .exit 0∧AH s.e 1= .ref 0 0∧AH s.e 4= .ref 1 0∧AH s.e 5= .func 129 [.ref 1 0]∧∃J2,s.h=C::wr (X++ds.flatMap Bw)::J2)
   ⟨[(1,.ref 0 0),(4,.ref 1 0),(5,.func 129 [.ref 1 0]),(42,.v (.list (ds.map Dat.V))),(43,.v (.int .i64 ds.length)),(44,.v (.int .i64 0))],C::wr X::J⟩:=by
 refine Ae ds.length (λk s=>s.e=[(1,.ref 0 0),(4,.ref 1 0),(5,.func 129 [.ref 1 0]),(42,.v (.list (ds.map Dat.V))),(43,.v (.int .i64 ds.length)),(44,.v (.int .i64 k))]∧∃J2,s.h=C::wr (X++(ds.take k).flatMap Bw)::J2) ⟨rfl,J,by simp⟩ ?_;rintro k ⟨se,sh⟩ hk ⟨he,J2,hh⟩;simp only at he hh;subst he hh;simp only[Y9,AB,AA,AF,AE,Y4];simp;by_cases hlt:k <ds.length
 ·obtain⟨x,hx⟩:∃x,ds[k]?=some x:=⟨_,ATo hlt⟩;have hxe:ds[k]=x:=(ATp.1 hx).2;have hw:IntKind.i64.wrap ((k:Int)+1)=k+1:=AJ;have hle:=Dd FH (ds.take k);have ht:(ds.take k).length=k:=by simp;omega
  have e:(ds.take (k+1)).flatMap Bw=(ds.take k).flatMap Bw++Bw x:=by rw[DC hlt,hxe]
  have hp:=λh hr=>O9 [x.cl,x.ix,x.day,x.file] (by
    intro n hn;simp at hn;rcases hn with rfl|rfl|rfl|rfl
    ·exact(hds x (ATq hx)).1
    ·exact(hds x (ATq hx)).2.1
    ·exact(hds x (ATq hx)).2.2.1
    ·exact(hds x (ATq hx)).2.2.2) (by simp) h 1 (X++(ds.take k).flatMap Bw) hr (by rw[ATr];omega)
  rw[OS]at hp;simp[AL]at hp;rw[if_pos (by omega),AD];simp only[AA,Y3,Y2];simp[hx,Dat.V,AO,D.vs?,D.v?];refine⟨_,_,(hp _ rfl),?_⟩;simp[Y1,hw,hlt,e]
 ·have:k=ds.length:=by omega
  subst this;rw[if_neg (by omega),AM];simp
theorem AIs (C:Row) (ds:List Own) (hds:∀d∈ds,d.ok) (hn:ds.length≤2^30) (X:List Int) (hX:X.length≤2^43) (J:List Row):
  awp Tryz.prog GLx (.loop Y8) (λe s=>e= .exit 2∧AH s.e 1= .ref 0 0∧AH s.e 4= .ref 1 0∧AH s.e 5= .func 129 [.ref 1 0]∧∃J2,s.h=C::wr (X++ds.flatMap Bu)::J2)
   ⟨[(1,.ref 0 0),(4,.ref 1 0),(5,.func 129 [.ref 1 0]),(72,.v (.list (ds.map Own.V))),(73,.v (.int .i64 ds.length)),(74,.v (.int .i64 0))],C::wr X::J⟩:=by
 refine Ae ds.length (λk s=>s.e=[(1,.ref 0 0),(4,.ref 1 0),(5,.func 129 [.ref 1 0]),(72,.v (.list (ds.map Own.V))),(73,.v (.int .i64 ds.length)),(74,.v (.int .i64 k))]∧∃J2,s.h=C::wr (X++(ds.take k).flatMap Bu)::J2) ⟨rfl,J,by simp⟩ ?_;rintro k ⟨se,sh⟩ hk ⟨he,J2,hh⟩;simp only at he hh;subst he hh;simp only[Y8,AB,AA,AF,AE,Yx];simp;by_cases hlt:k <ds.length
 ·obtain⟨x,hx⟩:∃x,ds[k]?=some x:=⟨_,ATo hlt⟩;have hxe:ds[k]=x:=(ATp.1 hx).2;have hw:IntKind.i64.wrap ((k:Int)+1)=k+1:=AJ;have hle:=Dd FE (ds.take k);have ht:(ds.take k).length=k:=by simp;omega
  have e:(ds.take (k+1)).flatMap Bu=(ds.take k).flatMap Bu++Bu x:=by rw[DC hlt,hxe]
  have hp:=λh hr=>O9 [x.party,x.num,x.den] (by
    intro n hn;simp at hn;rcases hn with rfl|rfl|rfl
    ·exact(hds x (ATq hx)).1
    ·exact(hds x (ATq hx)).2.1
    ·exact(hds x (ATq hx)).2.2) (by simp) h 1 (X++(ds.take k).flatMap Bu) hr (by rw[ATr];omega)
  rw[OQ]at hp;simp[AL]at hp;rw[if_pos (by omega),AD];simp only[AA,Yw,Yv];simp[hx,Own.V,AO,D.vs?,D.v?];refine⟨_,_,(hp _ rfl),?_⟩;simp[Yu,hw,hlt,e]
 ·have:k=ds.length:=by omega
  subst this;rw[if_neg (by omega),AM];simp
theorem AIr (C:Row) (ds:List Lic) (hds:∀d∈ds,d.ok) (hn:ds.length≤2^30) (X:List Int) (hX:X.length≤2^43) (J:List Row):
  awp Tryz.prog GLx (.loop Y7) (λe s=>e= .exit 4∧AH s.e 4= .ref 1 0∧AH s.e 5= .func 129 [.ref 1 0]∧∃J2,s.h=C::wr (X++ds.flatMap Bv)::J2)
   ⟨[(4,.ref 1 0),(5,.func 129 [.ref 1 0]),(97,.v (.list (ds.map Lic.V))),(98,.v (.int .i64 ds.length)),(99,.v (.int .i64 0))],C::wr X::J⟩:=by
 refine Ae ds.length (λk s=>s.e=[(4,.ref 1 0),(5,.func 129 [.ref 1 0]),(97,.v (.list (ds.map Lic.V))),(98,.v (.int .i64 ds.length)),(99,.v (.int .i64 k))]∧∃J2,s.h=C::wr (X++(ds.take k).flatMap Bv)::J2) ⟨rfl,J,by simp⟩ ?_;rintro k ⟨se,sh⟩ hk ⟨he,J2,hh⟩;simp only at he hh;subst he hh;simp only[Y7,AB,AA,AF,AE,Yr];simp;by_cases hlt:k <ds.length
 ·obtain⟨x,hx⟩:∃x,ds[k]?=some x:=⟨_,ATo hlt⟩;have hxe:ds[k]=x:=(ATp.1 hx).2;have hw:IntKind.i64.wrap ((k:Int)+1)=k+1:=AJ;have hle:=Dd FF (ds.take k);have ht:(ds.take k).length=k:=by simp;omega
  have e:(ds.take (k+1)).flatMap Bv=(ds.take k).flatMap Bv++Bv x:=by rw[DC hlt,hxe]
  have hp:=λh hr=>O9 [x.fr,x.to,x.fst,x.lst] (by
    intro n hn;simp at hn;rcases hn with rfl|rfl|rfl|rfl
    ·exact(hds x (ATq hx)).1
    ·exact(hds x (ATq hx)).2.1
    ·exact(hds x (ATq hx)).2.2.1
    ·exact(hds x (ATq hx)).2.2.2) (by simp) h 1 (X++(ds.take k).flatMap Bv) hr (by rw[ATr];omega)
  rw[OR]at hp;simp[AL]at hp;rw[if_pos (by omega),AD];simp only[AA,Yq,Yp];simp[hx,Lic.V,AO,D.vs?,D.v?];refine⟨_,_,(hp _ rfl),?_⟩;simp[Yo,hw,hlt,e]
 ·have:k=ds.length:=by omega
  subst this;rw[if_neg (by omega),AM];simp
set_option maxHeartbeats 1000000 in
theorem p51 (r:Rgt) (hr:r.ok):PX 51 [r.V] [AL .u8 (if At r then Bx r else []),.int .i64 (if At r then 0 else 1)]:=by
 refine AK k51 rfl ?_;have p1:=(PA r hr).fsp;have hlb:=hr.lb;have hld:=hr.ld;have hlo:=hr.lo;have hll:=hr.ll;have henc:=hr.enc;have hcl:At r=true→CL r.claims=0:=by
  intro h;unfold At at h;simp at h;exact h.1.1.1.1.1.1.2
 have p2:=(AIa r.claims hr.claims (by have:=hr.lc;omega) henc).fsp;cases hf:At r with
 |false=>
  rw[hf]at p1;simp only[c51,AB,AA,AE,Y6,Y5,AY];simp[Rgt.V,Rgt.cs]at p1 ⊢;refine⟨_,_,p1 _,?_⟩;simp[AB,AA,AG,zV,uL,AL]
 |true=>
  rw[hf]at p1;rw[hcl hf]at p2;simp at p2;have hres:Bx r=Bx r:=rfl;obtain⟨R,hR⟩:∃R,Bx r=R:=⟨_,rfl⟩;rw[hR];have hB:=isB.encClms hr.claims (by have:=hr.lc;omega) (by omega);have hraw:(BI (BJ r.claims)).length≤2^40:=by have:=DG (BJ r.claims).length;simp only[BI,ATr];omega
  have q1:=λh hq=>O9 [r.file,r.state,r.force] (by intro n hn;simp at hn;rcases hn with rfl|rfl|rfl;exact hr.file;exact hr.state;exact hr.force) (by simp) h 1 [] hq (by simp)
  simp only[AV6]at q1;have i1:=An r.file;have i2:=An r.state;have i3:=An r.force;obtain⟨X1,hX1⟩:∃X1,[r.file,r.state,r.force].flatMap Ag=X1:=⟨_,rfl⟩;have l1:X1.length≤30:=by rw[←hX1];simp;omega
  rw[hX1]at q1;have q2:=λh hq=>p99 (BJ r.claims) hB (by omega) h 1 X1 hq (by omega);obtain⟨X2,hX2⟩:∃X2,X1++BI (BJ r.claims)=X2:=⟨_,rfl⟩;have l2:X2.length≤2^41:=by rw[←hX2,ATr];omega
  rw[hX2]at q2;have q3:=λh hq=>O9 [(r.dates.length:Int)] (by intro n hn;simp at hn;subst hn;unfold i64;omega) (by simp) h 1 X2 hq (by omega);obtain⟨X3,hX3⟩:∃X3,X2++[(r.dates.length:Int)].flatMap Ag=X3:=⟨_,rfl⟩;have i4:=An r.dates.length;have l3:X3.length≤2^41+10:=by rw[←hX3];simp;omega
  rw[hX3]at q3;have q4:=λC J=>AIt C r.dates hr.dates hld X3 (by omega) J;have i5:=Dd FH r.dates;obtain⟨X4,hX4⟩:∃X4,X3++r.dates.flatMap Bw=X4:=⟨_,rfl⟩;have l4:X4.length≤2^41+2^37:=by rw[←hX4,ATr];omega
  rw[hX4]at q4;have q5:=λh hq=>ACs r.bad hr.bad (by omega) h 1 X4 hq (by omega);have i6:=CZ r.bad;have i7:=DG r.bad.length;obtain⟨X5,hX5⟩:∃X5,X4++BF r.bad=X5:=⟨_,rfl⟩;have l5:X5.length≤2^41+2^38:=by rw[←hX5,ATr,BF,ATr];omega
  rw[hX5]at q5;have q6:=λh hq=>O9 [(r.owners.length:Int)] (by intro n hn;simp at hn;subst hn;unfold i64;omega) (by simp) h 1 X5 hq (by omega);obtain⟨X6,hX6⟩:∃X6,X5++[(r.owners.length:Int)].flatMap Ag=X6:=⟨_,rfl⟩;have i8:=An r.owners.length;have l6:X6.length≤2^41+2^38+10:=by rw[←hX6];simp;omega
  rw[hX6]at q6;have q7:=λC J=>AIs C r.owners hr.owners hlo X6 (by omega) J;have i9:=Dd FE r.owners;obtain⟨X7,hX7⟩:∃X7,X6++r.owners.flatMap Bu=X7:=⟨_,rfl⟩;have l7:X7.length≤2^41+2^39:=by rw[←hX7,ATr];omega
  rw[hX7]at q7;have q8:=λh hq=>O9 [(r.lics.length:Int)] (by intro n hn;simp at hn;subst hn;unfold i64;omega) (by simp) h 1 X7 hq (by omega);obtain⟨X8,hX8⟩:∃X8,X7++[(r.lics.length:Int)].flatMap Ag=X8:=⟨_,rfl⟩;have i10:=An r.lics.length;have l8:X8.length≤2^41+2^39+10:=by rw[←hX8];simp;omega
  rw[hX8]at q8;have q9:=λC J=>AIr C r.lics hr.lics hll X8 (by omega) J;have i11:=Dd FF r.lics;obtain⟨X9,hX9⟩:∃X9,X8++r.lics.flatMap Bv=X9:=⟨_,rfl⟩;have l9:X9.length≤2^42:=by rw[←hX9,ATr];omega
  rw[hX9]at q9;have hRX:X9=R:=by
   rw[←hR,←hX9,←hX8,←hX7,←hX6,←hX5,←hX4,←hX3,←hX2,←hX1];simp[Bx]
  rw[hRX]at q9 l9;simp[AL]at p2 q1 q2 q3 q5 q6 q8;simp only[c51,AB,AA,AF,AE,Y6,Y5,AY];simp[Rgt.V,Rgt.cs,AL]at p1 ⊢;refine⟨_,_,p1 _,?_⟩;simp[AD,AA,zU,zT,D.vs?,D.v?];simp[zS,D.vs?,D.v?];refine⟨_,_,(q1 _ rfl),?_⟩;simp[zR];refine⟨_,_,p2 _,?_⟩;simp[zQ];refine⟨_,_,(q2 _ rfl),?_⟩;simp[zO,D.vs?,D.v?];refine⟨_,_,(q3 _ rfl),?_⟩;simp[zN];refine AX _ ?_ (q4 _ _);rintro e ⟨se,sh⟩ ⟨rfl,f1,f4,f5,J2,hh⟩;simp only at f1 f4 f5 hh;subst hh;simp[Y0,f1,f4,f5];refine⟨_,_,(q5 _ rfl),?_⟩;simp[Yz,f5,D.vs?,D.v?,f1,f4];refine⟨_,_,(q6 _ rfl),?_⟩;simp[Yy];refine AX _ ?_ (q7 _ _);rintro e ⟨se,sh⟩ ⟨rfl,f1,f4,f5,J2,hh⟩;simp only at f1 f4 f5 hh;subst hh;simp[Yt,f1,f4,f5,D.vs?,D.v?];refine⟨_,_,(q8 _ rfl),?_⟩;simp[Ys];refine AX _ ?_ (q9 _ _);rintro e ⟨se,sh⟩ ⟨rfl,f4,f5,J2,hh⟩;simp only at f4 f5 hh;subst hh;simp[Yn,f4,f5];refine⟨_,_,(ACr _ 1 R rfl (by omega)),?_⟩;simp[AG,uL]
structure HM where
 E:List ((Int×Int)×Int)
 st:List Nat
 ck:Nat
def Ba:List ((Int×Int)×Int)→Int×Int→Option Int
 |[],_=>none
 |x::E,k=>if x.1=k then some x.2 else Ba E k
def OA:List ((Int×Int)×Int)→Int×Int→Int→List ((Int×Int)×Int)
 |[],k,v=>[(k,v)]
 |x::E,k,v=>if x.1=k then (k,v)::E else x::OA E k v
def HM.get (m:HM) (k:Int×Int):Option Int:=Ba m.E k
def HM.set (m:HM) (k:Int×Int) (v:Int):HM:=
 if (m.get k).isSome then ⟨OA m.E k v,m.st,m.ck⟩ else ⟨OA m.E k v,m.st++[m.ck],m.ck+1⟩
def MN (x:(Int×Int)×Int):V×V:=(.agg [.int .i64 x.1.1,.int .i64 x.1.2],.int .u64 x.2)
def HM.row (m:HM):Row:= .map (m.E.map MN) m.st m.ck
theorem OC:∀(E:List ((Int×Int)×Int)) (k:Int×Int) (v:Int) (k':Int×Int),Ba (OA E k v) k'=if k'=k then some v else Ba E k'
 |[],k,v,k'=>by simp only[OA,Ba];by_cases h:k=k'<;>simp[h,eq_comm]
 |x::E,k,v,k'=>by
  simp only[OA];by_cases h:x.1=k
  ·subst h;simp only[if_true,Ba];by_cases h2:x.1=k'<;>simp[h2,eq_comm]
   intro h3;exact absurd h3.symm h2
  ·rw[if_neg h];simp only[Ba,OC E k v k'];by_cases h2:x.1=k'
   ·subst h2;simp[h]
   ·simp[h2]
theorem HM.get_set (m:HM) (k:Int×Int) (v:Int) (k':Int×Int):(m.set k v).get k'=if k'=k then some v else m.get k':=by
 unfold HM.set;split<;>exact OC _ _ _ _
theorem L6 (a b:Int):∀E:List ((Int×Int)×Int),Cl true [0,0] (.agg [.int .i64 a,.int .i64 b]) (E.map MN)=some (E.findIdx? λx=>x.1==(a,b))
 |[]=>rfl
 |x::E=>by
  obtain⟨⟨c,d⟩,v⟩:=x;have hk:Be true [0,0] (.agg [.int .i64 c,.int .i64 d])=true:=by simp[Be,V.eqL,V.eq1,V.cells]
  simp only[ATz,MN,Cl,hk,if_true,V.cells,V.eqL,V.eq1,AVk,L6 a b E,AUn];have e:((c,d)==(a,b))=((a==c)&&(b==d)):=by
   rw[AUt];simp
   constructor<;>(rintro⟨h1,h2⟩;exact⟨h1.symm,h2.symm⟩)
  rw[e];cases (a==c)&&(b==d)<;>simp
theorem Hk (k:Int×Int):∀E:List ((Int×Int)×Int),Ba E k=(E.findIdx? λx=>x.1==k).bind λi=>(E[i]?).map (·.2)
 |[]=>rfl
 |x::E=>by
  simp only[Ba,AUn];by_cases h:x.1=k
  ·simp[h]
  ·simp[h,Hk k E];cases E.findIdx? λx=>x.1==k<;>simp
theorem KC (k:Int×Int) (v:Int):∀E:List ((Int×Int)×Int),OA E k v=match E.findIdx? λx=>x.1==k with|none=>E++[(k,v)]|some i=>E.set i (k,v)
 |[]=>rfl
 |x::E=>by
  simp only[OA,AUn];by_cases h:x.1=k
  ·simp[h]
  ·simp only[h,if_false,KC k v E];have:(x.1==k)=false:=by simp[h]
   rw[this];cases E.findIdx? λx=>x.1==k<;>simp
def Fx (a b:Option Int):Option Int:=
 match a,b with
 |none,none=>none
 |a,b=>some (U7 [98,108,111,99,107] [IntKind.i64.wrap (a.getD 0),IntKind.i64.wrap (b.getD 0)])
def upd (lf:Int→Option Int) (k v:Int):Int→Option Int:=λx=>if x=k then some v else lf x
theorem PD {a b:Option Int} (h:a.isSome=true∨b.isSome=true):Fx a b=some ((Fx a b).getD 0):=by
 cases a<;>cases b<;>simp_all [Fx]
def Jv:Nat→Int→Int→Int→HM→HM
 |0,j,n,h,m=>m.set (j,n) h
 |f+1,j,n,h,m=>Jv f (j+1) (n/2) ((Fx ((m.set (j,n) h).get (j,2*(n/2))) ((m.set (j,n) h).get (j,2*(n/2)+1))).getD 0) (m.set (j,n) h)
theorem ACn (n:Int):PX 131 [.int .i64 n] [.bool (decide (0≤n∧n≤4095))]:=by
 refine AK AKA rfl ?_;by_cases h1:0≤n<;>by_cases h2:n≤4095<;>simp[AHR,awp,qp,qo,qq,AY,h1,h2]
def Hf (k:Int) (v:List Int):Int:=U7 [112,97,105,114] [k,v.length,IntKind.i64.wrap (OE [118,97,108,117,101] v)]
theorem AQt (k:Int) (v:List Int) (hv:∀x∈v,0≤x∧x <256) (hl:v.length≤2^39):PX 133 [.int .i64 k,AL .u8 v] [.int .u64 (Hf k v)]:=by
 refine AK AJ8 rfl ?_;have p1:=(AP5 ⟨#[118,97,108,117,101]⟩ v hv (by decide) hl).fsp;have p2:=(p96 ⟨#[112,97,105,114]⟩ [k,v.length,IntKind.i64.wrap (OE [118,97,108,117,101] v)] (by decide) (by simp)).fsp;have e1:Ai ⟨#[118,97,108,117,101]⟩=[118,97,108,117,101]:=by simp[Ai]
 have e2:Ai ⟨#[112,97,105,114]⟩=[112,97,105,114]:=by simp[Ai]
 rw[e1]at p1;rw[e2]at p2;have e3:U7 [112,97,105,114] [k,v.length,IntKind.i64.wrap (OE [118,97,108,117,101] v)]=Hf k v:=rfl;rw[e3]at p2;simp[AL]at p1 p2;simp only[AHP,AB,AA,qh,qg,AY];simp[AL];refine⟨_,_,p1 _,?_⟩;simp;refine⟨_,_,p2 _,?_⟩;simp[AG,qi]
def Gt (a:Option Int):V:= .agg [.int .u64 (a.getD 0),.bool a.isSome]
theorem AQY (a b:Option Int):PX 182 [Gt a,Gt b] [Gt (Fx a b)]:=by
 refine AK AJ1 rfl ?_;have e2:Ai ⟨#[98,108,111,99,107]⟩=[98,108,111,99,107]:=by simp[Ai]
 have p2:=(p96 ⟨#[98,108,111,99,107]⟩ [IntKind.i64.wrap (a.getD 0),IntKind.i64.wrap (b.getD 0)] (by decide) (by simp)).fsp;rw[e2]at p2;simp[AL]at p2;simp only[AGR,AB,AA,AE,oH,oG,RM,oF,AY];cases a with
 |none=>
  cases b with
  |none=>simp[Gt,AB,AA,AG,RM,Oj,AO,Fx]
  |some b=>
   simp[Gt,AD,AA,AO,Fx]at p2 ⊢;refine⟨_,_,p2 _,?_⟩;simp[AG,Oj,AO]
 |some a=>
  simp[Gt,AD,AA,AO,Fx]at p2 ⊢;refine⟨_,_,p2 _,?_⟩;simp[AG,Oj,AO]
def Ge (l n:Int):V:= .agg [.int .i64 l,.int .i64 n]
theorem AIS (h:List Row) (r q:Nat) (hm:HM) (l n:Int) (d:D) (hr:h[r]?=some (.cells [d,.mref q])) (hq:h[q]?=some hm.row) (hl:∀row∈h,Row.low h.length row=true):
  FX 233 [.ref r 0,.v (Ge l n)] h [.v (Gt (hm.get (l,n)))] h:=by
 refine As AJk rfl (ATs _) hl (by simp[D.lt]) ?_;have hmf:=L6 l n hm.E;have hgi:=Hk (l,n) hm.E;have hr':=AS [.cells [.v (.int .i64 l),.v (.int .i64 n)],.cells [.v (.int .u64 0),.v (.bool false)]] hr;have hq':=AS [.cells [.v (.int .i64 l),.v (.int .i64 n)],.cells [.v (.int .u64 0),.v (.bool false)]] hq;simp only[AFj,AB,AA,Aa,ju,jt,AQ];simp[Ge,AO]
 try simp at hr'
 try simp at hq'
 simp[hr',hq',HM.row,hmf,Be,V.eqL,V.eq1];cases hi:hm.E.findIdx? (λx=>x.fst==(l,n))with
 |none=>
  rw[hi]at hgi;simp[HM.get,hgi,Dv,AA,AG,Q0,Tp,AO,Gt,D.one?,D.vs?,D.v?]
 |some i=>
  rw[hi]at hgi;have hlt:=(AWM.1 hi).1;rw[AUL,ATo hlt]at hgi;simp[HM.get,hgi,hlt,Dv,AA,AG,Q0,Tp,MN,AO,Gt,D.one?,D.vs?,D.v?]
theorem AQZ (l n:Int) (hl:0 <l∧l≤12) (hn:0≤n∧n≤4096):PX 181 [Ge l n] [Ge (l-1) (2*n),Ge (l-1) (2*n+1)]:=by
 refine AK AJ2 rfl ?_;have w1:IntKind.i64.wrap (l-1)=l-1:=AJ;have w2:IntKind.i64.wrap (2*n)=2*n:=AJ;have w3:IntKind.i64.wrap (2*n+1)=2*n+1:=AJ;simp only[AGS,AB,AA,oJ,AY];simp[Ge];rw[Bq];refine Bm _ (λs hs=>⟨s,.inl rfl,hs⟩) ?_;simp only[oI];simp[AO,w1,w2,w3,AG,oK,D.one?,D.vs?,D.v?]
theorem Row.low_mono {n m:Nat} (h:n≤m) {row:Row} (hr:Row.low n row=true):Row.low m row=true:=by
 cases row with
 |cells ds=>
  simp only[Row.low]at hr ⊢;exact D1 λd hd=>by
   obtain⟨i,hi⟩:=AWK hd;exact Dn h d (EW hr hi)
 |_=>exact hr
theorem HM.row_new {m:HM} {k:Int×Int} (v:Int) (h:(m.E.findIdx? λx=>x.1==k)=none):(m.set k v).row= .map (m.E.map MN++[MN (k,v)]) (m.st++[m.ck]) (m.ck+1):=by
 have h1:m.get k=none:=by rw[HM.get,Hk,h];rfl
 have h2:=KC k v m.E;rw[h]at h2;simp[HM.set,h1,HM.row,h2]
theorem HM.row_old {m:HM} {k:Int×Int} {i:Nat} (v:Int) (h:(m.E.findIdx? λx=>x.1==k)=some i):(m.set k v).row= .map ((m.E.map MN).set i (MN (k,v))) m.st m.ck:=by
 have hlt:=(AWM.1 h).1;have h1:m.get k=some (m.E[i]).2:=by rw[HM.get,Hk,h];simp[hlt]
 have h2:=KC k v m.E;rw[h]at h2;simp[HM.set,h1,HM.row,h2,List.map_set]
structure PF (h:List Row) (q:Nat) (m:HM) (c x:Nat) (w j n:Int) (H:List Row):Prop where
 pre:H.take h.length=h.set q m.row
 hc:H[c]?=some (.cells [.v (.int .u64 w),.v (.bool true)])
 hx:H[x]?=some (.cells [.v (.int .i64 j),.v (.int .i64 n)])
 lc:h.length≤c
 lx:h.length≤x
 ne:c≠x
 low:∀row∈H.drop h.length,Row.low 0 row=true
section
variable {h:List Row} {q:Nat} {m:HM} {c x:Nat} {w j n:Int} {H:List Row}
theorem PF.len (hF:PF h q m c x w j n H):h.length≤H.length:=Nat.le_of_lt (Nat.lt_of_le_of_lt hF.lc (CJ hF.hc))
theorem PF.get (hF:PF h q m c x w j n H) {i:Nat} (hi:i <h.length):H[i]?=(h.set q m.row)[i]?:=by
 rw[←hF.pre,AUH,if_pos hi]
theorem PF.gq (hF:PF h q m c x w j n H) {y:Row} (hq:h[q]?=some y):H[q]?=some m.row:=by
 rw[hF.get (CJ hq),BU hq]
theorem PF.gr (hF:PF h q m c x w j n H) {r:Nat} {y:Row} (hr:h[r]?=some y) (hn:r≠q):H[r]?=some y:=by
 rw[hF.get (CJ hr),AT5 (Ne.symm hn)];exact hr
theorem PF.app (hF:PF h q m c x w j n H) {row:Row} (hl:Row.low 0 row=true):PF h q m c x w j n (H++[row]) where
 pre:=by rw[AVq hF.len];exact hF.pre
 hc:=AS _ hF.hc
 hx:=AS _ hF.hx
 lc:=hF.lc
 lx:=hF.lx
 ne:=hF.ne
 low:=by
  rw[List.drop_append_of_le_length hF.len];intro row hr;rcases AT7.1 hr with hr|hr
  ·exact hF.low row hr
  ·simp at hr;subst hr;exact hl
theorem JA {L c:Nat} {y:Row} (h:L≤c):(H.set c y).drop L=(H.drop L).set (c-L) y:=by
 rw[List.drop_set,if_neg (by omega)]
theorem PF.setc (hF:PF h q m c x w j n H) (w':Int):PF h q m c x w' j n (H.set c (.cells [.v (.int .u64 w'),.v (.bool true)])) where
 pre:=by rw[List.take_set,List.set_eq_of_length_le (by simp;have:=hF.lc;omega)];exact hF.pre
 hc:=BU hF.hc
 hx:=by rw[AT5 hF.ne];exact hF.hx
 lc:=hF.lc
 lx:=hF.lx
 ne:=hF.ne
 low:=by
  rw[JA hF.lc];intro row hr;rcases AUg hr with hr|rfl
  ·exact hF.low row hr
  ·rfl
theorem PF.setx (hF:PF h q m c x w j n H) (j' n':Int):PF h q m c x w j' n' (H.set x (.cells [.v (.int .i64 j'),.v (.int .i64 n')])) where
 pre:=by rw[List.take_set,List.set_eq_of_length_le (by simp;have:=hF.lx;omega)];exact hF.pre
 hc:=by rw[AT5 (Ne.symm hF.ne)];exact hF.hc
 hx:=BU hF.hx
 lc:=hF.lc
 lx:=hF.lx
 ne:=hF.ne
 low:=by
  rw[JA hF.lx];intro row hr;rcases AUg hr with hr|rfl
  ·exact hF.low row hr
  ·rfl
theorem PF.newx (hF:PF h q m c x w j n H) (j' n':Int):PF h q m c H.length w j' n' (H++[.cells [.v (.int .i64 j'),.v (.int .i64 n')]]):=
 have hA:=hF.app (row:= .cells [.v (.int .i64 j'),.v (.int .i64 n')]) rfl
 {pre:=hA.pre,hc:=hA.hc,hx:=GT _ _,lc:=hF.lc,lx:=hF.len,ne:=Nat.ne_of_lt (CJ hF.hc),low:=hA.low}
theorem PF.setq (hF:PF h q m c x w j n H) (hq:q <h.length) (m':HM):PF h q m' c x w j n (H.set q m'.row) where
 pre:=by rw[List.take_set,hF.pre,AU6]
 hc:=by rw[AT5 (by have:=hF.lc;omega)];exact hF.hc
 hx:=by rw[AT5 (by have:=hF.lx;omega)];exact hF.hx
 lc:=hF.lc
 lx:=hF.lx
 ne:=hF.ne
 low:=by rw[List.drop_set_of_lt hq];exact hF.low
theorem PF.all (hF:PF h q m c x w j n H) (hl:∀row∈h,Row.low h.length row=true):∀row∈H,Row.low H.length row=true:=by
 intro row hr;rw[←AUe h.length H]at hr;rcases AT7.1 hr with hr|hr
 ·rw[hF.pre]at hr;rcases AUg hr with hr|rfl
  ·exact Row.low_mono hF.len (hl row hr)
  ·rfl
 ·exact Row.low_mono (AUR _) (hF.low row hr)
end
theorem AJM (h:List Row) (r q:Nat) (d:D) (y:Row) (hr:h[r]?=some (.cells [d,.mref q])) (hq:h[q]?=some y) (hn:r≠q) (hl:∀row∈h,Row.low h.length row=true)
  {m:HM} {c x:Nat} {w n v:Int} {j:Nat} {H:List Row} (hF:PF h q m c x w j n H) (hj:j≤12) (hn0:0≤n) (hn1:n≤4096)
  (hv:(j=0∧w=v)∨(0 <j∧Fx (m.get ((j:Int)-1,2*n)) (m.get ((j:Int)-1,2*n+1))=some v)) (Q:AExit→St→Prop)
  (hQ:∀e' H',AH e' 0= .ref r 0→AH e' 5= .ref c 0→AH e' 6= .ref x 0→PF h q m c x v j n H'→Q .normal ⟨e',H'⟩):
  awp Tryz.prog GLx (.seq (.reg Rd [0,5,6,20]) (.cond (.t 20 false) (.seq (.reg Rc [0,5,6,7,8]) (.regA Rb [0,5,6] [[],[],[0,1],[],[],[0,1,2,3,4],[0,1,2,3,4,5],[0,1,2,3,4,5,6]] (.take 0 (.take 1 (.take 3 (.take 4 (.take 2 (.take 5 (.take 6 (.take 7 .done)))))))))) .skip)) Q
   ⟨[(0,.ref r 0),(5,.ref c 0),(6,.ref x 0)],H⟩:=by
 simp only[AB,AA,AE,Rd];simp[hF.hx];rcases hv with ⟨rfl,rfl⟩|⟨h0,hv⟩
 ·simp[AD];exact hQ _ H rfl rfl rfl hF
 ·rw[if_pos h0];have p1:=(AQZ j n ⟨by omega,by omega⟩ ⟨hn0,hn1⟩).fsp;simp[Ge]at p1;simp only[Rc];simp[hF.hx];refine⟨_,_,p1 _,?_⟩;simp[AO];have hF2:=(hF.app (row:= .cells [.v (.int .i64 (j-1)),.v (.int .i64 (2*n))]) rfl).app (row:= .cells [.v (.int .i64 (j-1)),.v (.int .i64 (2*n+1))]) rfl;simp only[AT1,AUl,AV6]at hF2;have g1:=AIS _ r q m (j-1) (2*n) d (hF2.gr hr hn) (hF2.gq hq) (hF2.all hl);have g2:=AIS _ r q m (j-1) (2*n+1) d (hF2.gr hr hn) (hF2.gq hq) (hF2.all hl);have g3:=AQY (m.get (j-1,2*n)) (m.get (j-1,2*n+1));rw[hv]at g3;have e3:Gt (some v)= .agg [.int .u64 v,.bool true]:=rfl;rw[e3]at g3;have hF3:=hF2.setc v;have hcc:=hF2.hc;generalize Gt (m.get (j-1,2*n))=s1 at*;generalize Gt (m.get (j-1,2*n+1))=s2 at*;simp only[Ge]at g1 g2;rw[Bq];refine Bm _ (λs hs=>⟨s,.inl rfl,hs⟩) ?_;simp only[Rb];simp;refine⟨_,_,g1,⟨[],by simp⟩,?_⟩;simp;refine⟨_,_,g2,⟨[],by simp⟩,?_⟩;simp;refine⟨_,_,⟨rfl,rfl⟩,_,g3,?_⟩;simp[hcc,AO];exact hQ _ _ rfl rfl rfl hF3
theorem AJL (h:List Row) (r q:Nat) (d:D) (y:Row) (hr:h[r]?=some (.cells [d,.mref q])) (hq:h[q]?=some y) (hn:r≠q)
  {m:HM} {c x:Nat} {n v:Int} {j:Nat} {H:List Row} {e:Env} (f0:AH e 0= .ref r 0) (f5:AH e 5= .ref c 0) (f6:AH e 6= .ref x 0) (hF:PF h q m c x v j n H) (Q:AExit→St→Prop)
  (hret:j=12→n=0→∀e2 H2,PF h q (m.set ((j:Int),n) v) c x v j n H2→Q .ret ⟨e2,H2⟩)
  (hgo:¬((j:Int)=12∧n=0)→∀e2 H2,AH e2 5= .ref c 0→AH e2 6= .ref x 0→AH e2 0= .ref r 0→PF h q (m.set ((j:Int),n) v) c x v j n H2→Q .normal ⟨e2,H2⟩):
  awp Tryz.prog GLx (.seq (.seq (.reg Ra [0,5,6,34]) (.cond (.t 34 false) (.regD RZ [0,5,6] [[],[0],[0,1],[0,1,2],[],[],[5],[0,1,2,3,4,5,6]]) (.regD qj [0,5,6] [[],[0],[0,1],[0,1,2],[],[0,1,2,3,4]])))
   (.seq (.reg M3 [0,5,6,49]) (.cond (.t 49 false) .ret .skip))) Q ⟨e,H⟩:=by
 have hmf:=L6 j n m.E;have hqq:H[q]?=some (.map (m.E.map MN) m.st m.ck):=hF.gq hq;have hrr:=hF.gr hr hn;have hc:=hF.hc;have hx:=hF.hx;have hF2:=hF.setq (CJ hq) (m.set ((j:Int),n) v);have hx2:=hF2.hx;have eq2:=Wp j n 12 0;simp only[AB,AA,AE,Ra];simp[f0,f5,f6,hc];simp only[Aa,RZ];simp[hrr,hc,hx,hqq,hmf,Be,V.eqL,V.eq1];have fin:∀row,row=(m.set ((j:Int),n) v).row→Bd Tryz.prog GLx M3 (λs'=>match (AH s'.e 49).copy with
   | .v (.bool t)=>if t then awp Tryz.prog GLx .ret Q ⟨[(0,AH s'.e 0),(5,AH s'.e 5),(6,AH s'.e 6),(49,AH s'.e 49)],s'.h⟩ else awp Tryz.prog GLx .skip Q ⟨[(0,AH s'.e 0),(5,AH s'.e 5),(6,AH s'.e 6),(49,AH s'.e 49)],s'.h⟩
   |_=>False) ⟨[(0,.ref r 0),(5,.ref c 0),(6,.ref x 0)],H.set q row⟩:=by
  rintro row rfl;simp only[M3];simp[hx2,eq2];by_cases hd:(j:Int)=12∧n=0
  ·rw[if_pos hd];exact hret (by omega) hd.2 _ _ hF2
  ·rw[if_neg hd];exact hgo hd _ _ rfl rfl rfl hF2
 cases hi:m.E.findIdx? (λx=>x.fst==((j:Int),n))with
 |none=>
  simp;exact fin _ (HM.row_new v hi).symm
 |some i=>
  simp;exact fin _ (HM.row_old v hi).symm
theorem AJK (h:List Row) (q:Nat) {m:HM} {c x r:Nat} {n v:Int} {j:Nat} {H:List Row} {e:Env} (f0:AH e 0= .ref r 0) (f5:AH e 5= .ref c 0) (f6:AH e 6= .ref x 0) (hF:PF h q m c x v j n H)
  (hn0:0≤n) (hn1:n≤4096) (hj:j≤12) (Q:AExit→St→Prop)
  (hgo:∀H2,PF h q m c H.length v ((j+1:Nat):Int) (n/2) H2→Q .normal ⟨[(0,.ref r 0),(5,.ref c 0),(6,.ref H.length 0)],H2⟩):
  awp Tryz.prog GLx (.seq (.seq (.reg M5 [0,5,50]) (.reg M4 [0,5,6])) (.reg Re [0,5,6])) Q ⟨e,H⟩:=by
 have w1:IntKind.i64.wrap ((j:Int)+1)=((j+1:Nat):Int):=AJ;have w2:IntKind.i64.wrap (n/2)=n/2:=AJ;have hx:=hF.hx;have hF2:=(hF.newx j n).setx ((j+1:Nat):Int) (n/2);have e1:(H++[Row.cells [.v (.int .i64 j),.v (.int .i64 n)]]).set H.length (.cells [.v (.int .i64 ((j+1:Nat):Int)),.v (.int .i64 (n/2))])=H++[.cells [.v (.int .i64 ((j+1:Nat):Int)),.v (.int .i64 (n/2))]]:=tO _ _ _;rw[e1]at hF2;simp only[AB,AA,M5];simp[f0,f5,f6,hx];simp only[M4];simp[AO];simp only[Re];simp[AO,w1,AWb hn0,w2];exact hgo _ hF2
theorem ART (h:List Row) (r q:Nat) (d:D) (y:Row) (hr:h[r]?=some (.cells [d,.mref q])) (hq:h[q]?=some y) (hn:r≠q) (hl:∀row∈h,Row.low h.length row=true)
  (n0 v0:Int) (m0:HM) (c0 x0:Nat) (H0:List Row) (hn0:0≤n0) (hn1:n0 <4096) (hF0:PF h q m0 c0 x0 v0 0 n0 H0):
   awp Tryz.prog GLx (.loop Rf) (λe s=>e= .ret∧s.h.take h.length=h.set q (Jv 12 0 n0 v0 m0).row) ⟨[(0,.ref r 0),(5,.ref c0 0),(6,.ref x0 0)],H0⟩:=by
 refine Ae 12 (λj s=>∃(n v w:Int) (m:HM) (c x:Nat),s.e=[(0,.ref r 0),(5,.ref c 0),(6,.ref x 0)]∧0≤n∧n <((2^(12-j):Nat):Int)∧PF h q m c x w j n s.h∧
   ((j=0∧w=v)∨(0 <j∧Fx (m.get ((j:Int)-1,2*n)) (m.get ((j:Int)-1,2*n+1))=some v))∧Jv (12-j) j n v m=Jv 12 0 n0 v0 m0) ⟨n0,v0,v0,m0,c0,x0,rfl,hn0,by simpa using hn1,hF0,.inl ⟨rfl,rfl⟩,rfl⟩ ?_
 rintro j ⟨se,sh⟩ hj ⟨n,v,w,m,c,x,he,b0,b1,hF,hv,hR⟩;simp only at he hF;subst he;have hn2:n≤4096:=by
  have:2^(12-j)≤2^12:=AWC (by decide) (by omega);have e:2^12=4096:=by decide
  omega
 rw[←hR];simp only[Rf];rw[AB,AF,AB];refine AJM h r q d y hr hq hn hl hF hj b0 hn2 hv _ ?_;intro e' H' f0 f5 f6 hF';simp only[];refine AJL h r q d y hr hq hn f0 f5 f6 hF' _ ?_ ?_
 ·rintro rfl rfl e2 H2 hF2;exact⟨rfl,hF2.pre⟩
 ·intro hd e2 H2 g5 g6 g0 hF2;simp only[];have hjl:j <12:=by
   rcases AUD j 12 with h|h
   ·exact h
   ·exfalso;have:j=12:=by omega
    subst this;simp at b1;exact hd ⟨rfl,by omega⟩
  refine AJK h q g0 g5 g6 hF2 b0 hn2 hj _ ?_;intro H3 hF3;obtain⟨f,hf⟩:∃f,12-j=f+1:=⟨11-j,by omega⟩;have hf2:12-(j+1)=f:=by omega
  rw[hf]at b1 ⊢;rw[hf2];refine⟨hjl,n/2,(Fx ((m.set ((j:Int),n) v).get ((j:Int),2*(n/2))) ((m.set ((j:Int),n) v).get ((j:Int),2*(n/2)+1))).getD 0,v,m.set ((j:Int),n) v,c,H2.length,rfl,by omega,?_,hF3,.inr ⟨by omega,?_⟩,?_⟩
  ·rw[Nat.pow_succ]at b1;omega
  ·have ej:((j+1:Nat):Int)-1=j:=by omega
   rw[ej];refine PD ?_;have h0:n%2=0∨n%2=1:=by omega
   rcases h0 with h0|h0
   ·exact .inl (by rw[HM.get_set,show 2*(n/2)=n by omega];simp)
   ·exact .inr (by rw[HM.get_set,show 2*(n/2)+1=n by omega];simp)
  ·rfl
theorem AQu (h:List Row) (r q:Nat) (d:D) (y:Row) (hr:h[r]?=some (.cells [d,.mref q])) (m:HM) (hq:h[q]?=some m.row) (hn:r≠q) (hl:∀row∈h,Row.low h.length row=true)
  (k v:Int) (h0:0≤k) (h1:k <4096):FX 132 [.ref r 0,.v (.int .i64 k),.v (Gt (some v))] h [] (h.set q (Jv 12 0 k v m).row):=by
 refine As AJ9 rfl (by simp) ?_ (by simp) ?_
 ·intro row hrow;rw[AUr];rcases AUg hrow with hr|rfl
  ·exact hl row hr
  ·rfl
 have hF:PF h q m h.length (h.length+1) v 0 k (h++[.cells [.v (.int .u64 v),.v (.bool true)],.cells [.v (.int .i64 0),.v (.int .i64 k)]]):=by
  refine⟨?_,by simp,by simp,by omega,by omega,by omega,?_⟩
  ·rw[AVq (ATs _),AUG (ATs _)];obtain⟨g1,g2⟩:=ATp.1 hq;rw[←g2,AWY]
  ·simp[Row.low,D.lts,D.lt]
 have hL:=ART h r q d _ hr hq hn hl k v m _ _ _ h0 h1 hF;simp only[AHQ,AB,AA,AF,ql,AQ];simp[Gt];simp only[qk];simp[AO];refine AX _ ?_ hL;rintro e s ⟨rfl,hs⟩;simp[qn];exact⟨s.h.drop h.length,by rw[←hs,AUe]⟩
structure KM where
 E:List (Int×List Int)
 st:List Nat
 ck:Nat
def F5 (x:Int×List Int):V×V:=(.int .i64 x.1,AL .u8 x.2)
def KM.row (m:KM):Row:= .map (m.E.map F5) m.st m.ck
def KM.set (m:KM) (k:Int) (v:List Int):KM:=
 match m.E.findIdx? λx=>x.1==k with
 |none=>⟨m.E++[(k,v)],m.st++[m.ck],m.ck+1⟩
 |some i=>⟨m.E.set i (k,v),m.st,m.ck⟩
theorem JX (a:Int):∀E:List (Int×List Int),Cl false [0] (.int .i64 a) (E.map F5)=some (E.findIdx? λx=>x.1==a)
 |[]=>rfl
 |x::E=>by
  obtain⟨c,v⟩:=x;have hk:Be false [0] (.int .i64 c)=true:=by simp[Be,V.eqL,V.eq1,V.cells]
  simp only[ATz,F5,Cl,hk,if_true,V.cells,V.eqL,V.eq1,AVk,JX a E,AUn];have e:(c==a)=(a==c):=AUt.2 (by simp only[beq_iff_eq];exact eq_comm);rw[e];cases a==c<;>simp
theorem KM.row_new {m:KM} {k:Int} (v:List Int) (h:(m.E.findIdx? λx=>x.1==k)=none):(m.set k v).row= .map (m.E.map F5++[F5 (k,v)]) (m.st++[m.ck]) (m.ck+1):=by
 simp[KM.set,h,KM.row]
theorem KM.row_old {m:KM} {k:Int} {i:Nat} (v:List Int) (h:(m.E.findIdx? λx=>x.1==k)=some i):(m.set k v).row= .map ((m.E.map F5).set i (F5 (k,v))) m.st m.ck:=by
 simp[KM.set,h,KM.row,List.map_set]
theorem wA (xs:List Int) (hb:xs.length≤2^45):PX 117 [AL .u8 xs] [AL .u8 xs]:=by
 refine AK AC3 rfl ?_;have hroom:Ah xs.length 1=true:=by simp[Ah];omega
 cases xs with
 |nil=>simp[Vj,awp,Ki,Kh,Kg,Kf,Lh,AY,AL,Ah]
 |cons x xs=>simp[Vj,awp,Ki,Kh,Kg,Kf,Lh,AY,AL]at hroom ⊢;simp[hroom]
theorem p50 (h:List Row):FX 50 [] h [.ref (h.length+2) 0] (h++[KM.row ⟨[],[],0⟩,HM.row ⟨[],[],0⟩,.cells [.mref h.length,.mref (h.length+1)]]):=by
 refine AN k50 rfl ?_;simp[c50,awp,zX,zW,ADv,AQ,AO,KM.row,HM.row]
def IL (k:Int) (bs:List Int):Int:=if 0≤k∧k≤4095 then (if bs.length>65536 then 4 else 0) else 5
theorem p52 (h:List Row) (t a q:Nat) (K:KM) (m:HM) (ht:h[t]?=some (.cells [.mref a,.mref q])) (ha:h[a]?=some K.row) (hq:h[q]?=some m.row) (n1:t≠a) (n2:t≠q) (n3:a≠q)
  (hl:∀row∈h,Row.low h.length row=true) (k:Int) (bs:List Int) (hb:∀x∈bs,0≤x∧x <256) (hbl:bs.length≤2^39):
  FX 52 [.ref t 0,.v (.int .i64 k),.v (AL .u8 bs)] h [.v (.int .i64 (IL k bs))] (if IL k bs=0 then (h.set a (K.set k bs).row).set q (Jv 12 0 k (Hf k bs) m).row else h):=by
 refine AN k52 rfl ?_;have p1:=(ACn k).fsp;simp at p1;by_cases hk:0≤k∧k≤4095
 ·have e1:(decide (0≤k)&&decide (k≤4095))=true:=by simpa using hk
  rw[e1]at p1;by_cases hbb:65536 <bs.length
  ·have hE:IL k bs=4:=by simp[IL,hk,hbb]
   have hbb':65536 <(bs.length:Int):=by omega
   rw[hE,if_neg (by decide)];simp only[c52,AB,AA,AF,AE,TA,S9,AQ];simp[AL];refine⟨_,_,p1 _,?_⟩;simp[AB,AA,AE,Ym,hbb',AG,zL,Vd]
  ·have hE:IL k bs=0:=by simp[IL,hk];omega
   have hbb':¬65536 <(bs.length:Int):=by omega
   have p2:=wA bs (by omega);have p3:=(AQt k bs hb hbl).fsp;simp[AL]at p2 p3;have hmf:=JX k K.E;have ha':h[a]?=some (.map (K.E.map F5) K.st K.ck):=ha;rw[hE,if_pos rfl];obtain⟨HH,hHH⟩:∃HH,(h.set a (K.set k bs).row).set q (Jv 12 0 k (Hf k bs) m).row=HH:=⟨_,rfl⟩;rw[hHH];simp only[c52,AB,AA,AF,AE,TA,S9,AQ];simp[AL];refine⟨_,_,p1 _,?_⟩;simp[AB,AA,AE,Ym,hbb',AD];simp only[Aa,zK];simp[ht];refine⟨_,_,⟨rfl,rfl⟩,_,p2,?_⟩;simp[ha',hmf,Be,V.eqL,V.eq1];have fin:∀row,row=(K.set k bs).row→Bd Tryz.prog GLx Yl (λs'=>Bd Tryz.prog GLx Yk (λs'=>awp Tryz.prog GLx .ret (λe s=>(match e with| .exit _=>False|_=>True)∧DW s Vd=some [.v (.int .i64 0)]∧s.h=HH) ⟨[(6,AH s'.e 6)],s'.h⟩) ⟨[],s'.h⟩)
     ⟨[(0,.ref t 0),(1,.v (.int .i64 k)),(2,.v (.list (bs.map (V.int .u8))))],h.set a row⟩:=by
    rintro row rfl;have hl2:∀row∈h.set a (K.set k bs).row,Row.low (h.set a (K.set k bs).row).length row=true:=by
     intro row hrow;rw[AUr];rcases AUg hrow with hr|rfl
     ·exact hl row hr
     ·rfl
    have p4:=AQu (h.set a (K.set k bs).row) t q (.mref a) .dead (by rw[AT5 (Ne.symm n1)];exact ht) m (by rw[AT5 n3];exact hq) n2 hl2 k (Hf k bs) hk.1 (by omega);simp only[Yl];simp;refine⟨_,_,p3 _,?_⟩;simp[AO];simp[Gt]at p4;refine⟨_,_,p4,?_⟩;simp[Yk,AG,Vd,hHH]
   cases hi:K.E.findIdx? (λx=>x.fst==k)with
   |none=>
    simp;exact fin _ (KM.row_new bs hi).symm
   |some i=>
    simp;exact fin _ (KM.row_old bs hi).symm
 ·have hE:IL k bs=5:=by simp[IL,hk]
  have e1:(decide (0≤k)&&decide (k≤4095))=false:=by simpa using hk
  rw[e1]at p1;rw[hE,if_neg (by decide)];simp only[c52,AB,AA,AF,AE,TA,S9,AQ];simp[AL];refine⟨_,_,p1 _,?_⟩;simp[AB,AA,AG,zM,Vd]
def L0 (r:Rgt):Int×List Int:=(r.file,Bx r)
def kmL (l:List Rgt):KM:=l.foldl (λK r=>K.set r.file (Bx r)) ⟨[],[],0⟩
def hmL (l:List Rgt):HM:=l.foldl (λm r=>Jv 12 0 r.file (Hf r.file (Bx r)) m) ⟨[],[],0⟩
def Ff (l:List Rgt) (k:Nat):Int:=
 match l[k]? with
 |none=>0
 |some r=>if At r then (if (l.take k).any (λq=>q.file==r.file) then 8 else IL r.file (Bx r)) else 1
theorem L5 {l:List Rgt} {k:Nat} {r:Rgt} (h:l[k]?=some r):Ff l k=if At r then (if (l.take k).any (λq=>q.file==r.file) then 8 else IL r.file (Bx r)) else 1:=by simp[Ff,h]
theorem td {l:List Rgt} {k:Nat} {r:Rgt} (h:l[k]?=some r) (h0:Ff l k=0):At r=true∧(l.take k).any (λq=>q.file==r.file)=false∧IL r.file (Bx r)=0:=by
 rw[L5 h]at h0;cases hf:At r with
 |false=>rw[hf]at h0;simp at h0
 |true=>
  cases ha:(l.take k).any (λq=>q.file==r.file)with
  |true=>rw[hf,ha]at h0;simp at h0
  |false=>rw[hf,ha]at h0;simp at h0;exact⟨rfl,rfl,h0⟩
theorem K9 {α:Type} {l:List α} {k:Nat} {x:α} (h:l[k]?=some x):l.take (k+1)=l.take k++[x]:=by rw[AUE,h];rfl
theorem KA (l:List Rgt) (r:Rgt):kmL (l++[r])=(kmL l).set r.file (Bx r):=by simp[kmL]
theorem We (l:List Rgt) (r:Rgt):hmL (l++[r])=Jv 12 0 r.file (Hf r.file (Bx r)) (hmL l):=by simp[hmL]
theorem IF (l:List Rgt) (k:Int):(l.map L0).findIdx? (λx=>x.1==k)=none↔l.any (λq=>q.file==k)=false:=by
 rw[AWe,AU7];simp[L0]
theorem wE {l:List Rgt}:∀k≤l.length,(∀j <k,Ff l j=0)→(kmL (l.take k)).E=(l.take k).map L0
 |0,_,_=>by simp[kmL]
 |k+1,hk,h=>by
  obtain⟨r,hr⟩:∃r,l[k]?=some r:=⟨_,ATo (by omega)⟩;have ih:=wE k (by omega) λj hj=>h j (by omega);obtain⟨h1,h2,h3⟩:=td hr (h k (by omega));rw[K9 hr,KA,KM.set,ih,(IF _ _).2 h2];simp[L0]
def EC (d:D) (n:Nat) (l:List Rgt):List Row:=[(kmL l).row,(kmL l).row,(hmL l).row,.cells [.mref (n+1),.mref (n+2)],.cells [d,.mref n,.ref (n+3) 0]]
def PN (h:List Row) (d:D) (l:List Rgt) (H:List Row):Prop:=∃J,H=h++(EC d h.length l++J)∧∀row∈J,∀n,row.low n=true
theorem tQ (r:Rgt) (n:Nat):r.row.low n=true:=by simp[Rgt.row,Rgt.cs,Row.low,D.lts,D.lt]
theorem PN.low {h H:List Row} {d:D} {l:List Rgt} (hp:PN h d l H) (hd:D.lt h.length d=true) (hl:∀row∈h,row.low h.length=true):∀row∈H,row.low H.length=true:=by
 obtain⟨J,rfl,hJ⟩:=hp;have hlen:h.length+5≤(h++(EC d h.length l++J)).length:=by simp[EC]
 intro row hrow;rcases AT7.1 hrow with hrow|hrow
 ·exact Row.low_mono (by omega) (hl row hrow)
 rcases AT7.1 hrow with hrow|hrow
 ·refine Row.low_mono hlen ?_;simp only[EC,ATt,AT2,or_false]at hrow;rcases hrow with rfl|rfl|rfl|rfl|rfl
  ·rfl
  ·rfl
  ·rfl
  ·simp[Row.low,D.lts,D.lt]
  ·simp[Row.low,D.lts,D.lt];exact Dn (by omega) d hd
 ·exact hJ row hrow _
theorem PN.get {h H:List Row} {d:D} {l:List Rgt} (hp:PN h d l H):H[h.length]?=some (kmL l).row∧H[h.length+1]?=some (kmL l).row∧H[h.length+2]?=some (hmL l).row∧
  H[h.length+3]?=some (.cells [.mref (h.length+1),.mref (h.length+2)])∧H[h.length+4]?=some (.cells [d,.mref h.length,.ref (h.length+3) 0]):=by
 obtain⟨J,rfl,hJ⟩:=hp;simp[EC]
theorem PN.app {h H:List Row} {d:D} {l:List Rgt} (hp:PN h d l H) (r:Rgt):PN h d l (H++[r.row]):=by
 obtain⟨J,rfl,hJ⟩:=hp;refine⟨J++[r.row],by simp,λrow hrow n=>?_⟩;rcases AT7.1 hrow with hrow|hrow
 ·exact hJ row hrow n
 ·simp only[ATy]at hrow;subst hrow;exact tQ r n
theorem PN.set {h H:List Row} {d:D} {l:List Rgt} (hp:PN h d l H) (r:Rgt):
  PN h d (l++[r]) (((H.set (h.length+1) ((kmL l).set r.file (Bx r)).row).set (h.length+2) (Jv 12 0 r.file (Hf r.file (Bx r)) (hmL l)).row).set h.length ((kmL l).set r.file (Bx r)).row):=by
 obtain⟨J,rfl,hJ⟩:=hp;refine⟨J,?_,hJ⟩;have e:∀(i:Nat) (x:Row) (t:List Row),(h++t).set (h.length+i) x=h++t.set i x:=by
  intro i x t;rw[AVb _ _ (by omega),Nat.add_sub_cancel_left]
 have e0:=λx t=>e 0 x t;simp only[AVC]at e0;rw[e,e,e0];simp[EC,KA,We]
def AHJ:AC:=(.seq (.reg Uc [6,8,9,10,21,22,23,33]) (.cond (.t 33 false) (.seq (.reg qA [4,5]) .ret) .skip))
def AOq:AC:=(.seq (.regD RX [6,8,9,12,21,22,23] [[],[0],[0,1],[0,1,2],[],[4],[0,1,2,3,4,5],[0,1,2,3,4,5,6],[0,1,2,3,4,5,6,7],[0,1,2,3,4,5,6,7],[0,1,2,3,4,5,6,7,8],[0,1,2,3,4,5,6,7,8,9,10]]) (.seq (.reg M1 [6,8,9,21,22,23,45]) (.cond (.t 45 false) (.seq (.reg RW [4,5]) .ret) .skip)))
def AOp:AC:=(.seq (.regD RV [6,8,9,13,21,22,23] [[],[0],[0,1],[0,1,2],[],[4],[],[0,1,2,3,4,5,6],[0,1,2,3,4,5,6,7]]) (.seq (.reg M0 [6,8,9,13,21,22,23,55]) (.cond (.t 55 false) (.seq (.reg RU [4,5]) .ret) .skip)))
def AOo:AC:=(.regD RT [6,21,22,23] [[],[0],[0,1],[0,1,2],[],[4],[],[0,1,2,3,4,5,6]])
def AHI:AC:=(.seq (.reg qC [6,8,21,22,23]) (.seq (.reg qB [6,8,9,10,21,22,23]) (.seq AHJ (.seq AOq (.seq AOp AOo)))))
theorem qF:qG=(.seq (.reg qD [6,21,22,23,24]) (.seq (.cond (.t 24 false) .skip (.exit 0)) (.seq (.block 1 AHI) (.reg RS [6,21,22,23])))):=rfl
theorem b13 (h:List Row) (d:D) (hd:D.lt h.length d=true) (hl:∀row∈h,row.low h.length=true) (l:List Rgt) (k:Nat) (r:Rgt) (hr:r.ok) (hlen:(Bx r).length≤2^39) (hB:∀x∈Bx r,0≤x∧x <256) (hxk:l[k]?=some r) (hk:k≤l.length)
  (hE:∀j <k,Ff l j=0) (H:List Row) (hp:PN h d (l.take k) H) (d22:D) (K:AExit→St→Prop)
  (hret:Ff l k≠0→∀e H',AH e 4= .v .nilp→AH e 5= .v (.int .i64 (Ff l k))→(∃J,H'=h++J)→K .ret ⟨e,H'⟩)
  (hok:Ff l k=0→∀e H',AH e 6= .ref (h.length+4) 0→AH e 21= .v (.list (l.map Rgt.V))→AH e 22=d22→AH e 23= .v (.int .i64 k)→PN h d (l.take (k+1)) H'→K .normal ⟨e,H'⟩):
  ∀e,AH e 6= .ref (h.length+4) 0→AH e 21= .v (.list (l.map Rgt.V))→AH e 22=d22→AH e 23= .v (.int .i64 k)→awp Tryz.prog GLx AHI K ⟨e,H⟩:=by
 intro e f6 f21 f22 f23;have p1:=(p51 r hr).fsp;have hne:=L5 hxk;have hpr:=hp.app r;have hrow:H++[.cells (r.cs.map D.v)]=H++[r.row]:=rfl;simp[Rgt.V,Rgt.cs,AL]at p1 hrow;unfold AHI;simp only[AB,AA,qC];simp[f6,f21,f22,f23,hxk,Rgt.V,Rgt.cs,AO,AL];rw[hrow];have g8:(H++[r.row])[H.length]?=some r.row:=by simp
 have hT:h.length+5≤H.length:=by obtain⟨J,rfl,-⟩:=hp;simp[EC]
 generalize H.length=T at*;generalize H++[r.row]=H1 at*;have hJ:∃J,H1=h++J:=by obtain⟨J,hJ,-⟩:=hpr;exact⟨_,hJ⟩
 obtain⟨g0,g1,g2,g3,g4⟩:=hpr.get;simp[qB,g8,Rgt.row,Rgt.cs,AL];refine⟨_,_,p1 _,?_⟩;cases hf:At r with
 |false=>
  rw[hf]at hne;simp at hne;simp[AHJ,AB,AA,AE,Uc,qA,AG];exact hret (by rw[hne];decide) _ _ (by simp) (by simp[hne]) hJ
 |true=>
  rw[hf]at hne;simp at hne;have hmf:=JX r.file (kmL (l.take k)).E;have hKE:=wE k hk hE;have g0':H1[h.length]?=some (.map ((kmL (l.take k)).E.map F5) (kmL (l.take k)).st (kmL (l.take k)).ck):=g0;simp[AHJ,AB,AA,AE,Uc,AD];simp only[AOq,AB,Aa,AA,AE,RX];simp[f6,f21,f22,f23,g4,g8,Rgt.row,Rgt.cs,g0',hmf,Be,V.eqL,V.eq1];cases hi:(kmL (l.take k)).E.findIdx? (λx=>x.1==r.file)with
  |some i=>
   have hil:i <(kmL (l.take k)).E.length:=(AWM.1 hi).1;have hany:(l.take k).any (λq=>q.file==r.file)=true:=by
    cases ha:(l.take k).any (λq=>q.file==r.file)with
    |true=>rfl
    |false=>
     rw[←IF,←hKE,hi]at ha;cases ha
   simp only[AVz,beq_iff_eq]at hany;rw[if_pos hany]at hne;simp[ATo hil,Dv,AA,M1,AB,AE,RW,AG];exact hret (by rw[hne];decide) _ _ (by simp) (by simp[hne]) hJ
  |none=>
   have hnone:=hi;rw[hKE,IF]at hnone;have hnany:¬ ∃x,x∈l.take k∧x.file=r.file:=by
    rintro⟨x,hx,hxf⟩;rw[AU7]at hnone;exact hnone x hx (by simpa using hxf)
   rw[if_neg hnany]at hne;simp[Dv,AA,M1,AD];simp only[AOp,AB,Aa,AA,AE,RV];simp[f6,f21,f22,f23,g4,g8,Rgt.row,Rgt.cs];have p2:=p52 H1 (h.length+3) (h.length+1) (h.length+2) _ _ g3 g1 g2 (by omega) (by omega) (by omega) (hpr.low hd hl) r.file (Bx r) hB hlen;simp[AL]at p2;by_cases hz:IL r.file (Bx r)=0
   ·rw[hz]at hne p2;rw[if_pos rfl]at p2;have hset:=hpr.set r;obtain⟨H2,hH2⟩:∃H2,(H1.set (h.length+1) ((kmL (l.take k)).set r.file (Bx r)).row).set (h.length+2) (Jv 12 0 r.file (Hf r.file (Bx r)) (hmL (l.take k))).row=H2:=⟨_,rfl⟩;rw[hH2]at p2 hset;have e4:H2[h.length+4]?=some (.cells [d,.mref h.length,.ref (h.length+3) 0]):=by rw[←hH2,AT5 (by omega),AT5 (by omega)];exact g4
    have e0:H2[h.length]?=some (.map ((kmL (l.take k)).E.map F5) (kmL (l.take k)).st (kmL (l.take k)).ck):=by rw[←hH2,AT5 (by omega),AT5 (by omega)];exact g0'
    have e8:H2[T]?=some r.row:=by rw[←hH2,AT5 (by omega),AT5 (by omega)];exact g8
    refine⟨_,_,p2,?_⟩;simp[M0,AD,AOo,Aa,RT];simp[e4,e8,e0,Rgt.row,Rgt.cs,hmf,hi,Be,V.eqL,V.eq1];refine hok (by rw[hne]) _ _ (by simp) (by simp) (by simp) (by simp) ?_;rw[K9 hxk];have hrn:=KM.row_new (Bx r) hi;simp[AL,F5]at hrn;simpa[hrn]using hset
   ·rw[if_neg hz]at p2;refine⟨_,_,p2,?_⟩;simp[hz,M0,AB,AA,AE,RU,AG];exact hret (by rw[hne];exact hz) _ _ (by simp) (by simp[hne]) hJ
theorem Ja {m:Nat} {r:Rgt} (h:r.tiny m) (hm:m≤2^20):(Bx r).length≤2^39:=by
 have h1:=h.lc;have h2:=h.ld;have h3:=h.lb;have h4:=h.lo;have h5:=h.ll;have e0:=FI h.claims;have e1:=An r.file;have e2:=An r.state;have e3:=An r.force;have e4:=DG (BJ r.claims).length;have e5:=An r.dates.length;have e6:=Dd FH r.dates;have e7:=FG r.bad;have e8:=An r.owners.length;have e9:=Dd FE r.owners;have e10:=An r.lics.length;have e11:=Dd FF r.lics;simp only[Bx,BI,ATr];omega
theorem Ws {m:Nat} {r:Rgt} (h:r.tiny m) (hm:m≤2^20):isB (Bx r):=by
 have h1:=h.lc;have h2:=h.ld;have h3:=h.lb;have h4:=h.lo;have h5:=h.ll;have e0:=FI h.claims;unfold Bx;refine isB.app (isB.app (isB.app (isB.app (isB.app (isB.app (isB.app (isB.app (isB.app (isB.app ?_ ?_) ?_) ?_) ?_) ?_) ?_) ?_) ?_) ?_) ?_
 ·exact isB.encI h.file
 ·exact isB.encI h.state
 ·exact isB.encI h.force
 ·exact isB.encRaw (isB.encClms (λc hc=>(h.claims c hc).ok) (by omega) (by omega)) (by omega)
 ·exact isB.encI (by unfold i64;omega)
 ·exact isB.flat λx hx=>((isB.encI (h.dates x hx).1).app (isB.encI (h.dates x hx).2.1)).app (isB.encI (h.dates x hx).2.2.1) |>.app (isB.encI (h.dates x hx).2.2.2)
 ·exact isB.encInts h.bad (by omega)
 ·exact isB.encI (by unfold i64;omega)
 ·exact isB.flat λx hx=>((isB.encI (h.owners x hx).1).app (isB.encI (h.owners x hx).2.1)).app (isB.encI (h.owners x hx).2.2)
 ·exact isB.encI (by unfold i64;omega)
 ·exact isB.flat λx hx=>((isB.encI (h.lics x hx).1).app (isB.encI (h.lics x hx).2.1)).app (isB.encI (h.lics x hx).2.2.1) |>.app (isB.encI (h.lics x hx).2.2.2)
def VC (l:List Rgt):Int:=Ee (Ff l) 0 l.length
theorem tT {l:List Rgt} {k:Nat} (hk:k <l.length) (h:∀j <k,Ff l j=0) (hz:Ff l k≠0):VC l=Ff l k:=GU _ _ k (AUR k) (by omega) (λj _ hj=>h j hj) hz
theorem LF {l:List Rgt} (h:∀j <l.length,Ff l j=0):VC l=0:=Ea _ _ λj _ hj=>h j (by omega)
theorem l13 (h:List Row) (d:D) (hd:D.lt h.length d=true) (hl:∀row∈h,row.low h.length=true) {m:Nat} (hm:m≤2^20) (l:List Rgt) (hok:∀r∈l,r.tiny m) (hn:l.length≤2^30) (K:AExit→St→Prop)
  (hret:∀k <l.length,(∀j <k,Ff l j=0)→Ff l k≠0→∀e H',AH e 4= .v .nilp→AH e 5= .v (.int .i64 (Ff l k))→(∃J,H'=h++J)→K .ret ⟨e,H'⟩)
  (hend:(∀j <l.length,Ff l j=0)→∀e H',AH e 6= .ref (h.length+4) 0→PN h d l H'→K (.exit 0) ⟨e,H'⟩):
  awp Tryz.prog GLx (.loop qG) K ⟨[(6,.ref (h.length+4) 0),(21,.v (.list (l.map Rgt.V))),(22,.v (.int .i64 l.length)),(23,.v (.int .i64 0))],h++EC d h.length []⟩:=by
 refine Ae l.length (λk s=>s.e=[(6,.ref (h.length+4) 0),(21,.v (.list (l.map Rgt.V))),(22,.v (.int .i64 l.length)),(23,.v (.int .i64 k))]∧(∀j <k,Ff l j=0)∧PN h d (l.take k) s.h) ⟨by simp,λj hj=>by omega,[],by simp,by simp⟩ ?_;rintro k ⟨se,H⟩ hk ⟨he,hE,hp⟩;simp only at he hp;subst he;rw[qF];simp only[AB,AA,AF,AE,qD];simp;by_cases hlt:k <l.length
 ·obtain⟨r,hxk⟩:∃r,l[k]?=some r:=⟨_,ATo hlt⟩;have hr:=hok r (ATq hxk);have hw:IntKind.i64.wrap ((k:Int)+1)=k+1:=AJ;rw[if_pos (by omega),AD];refine b13 h d hd hl l k r (hr.ok hm) (Ja hr hm) (Ws hr hm) hxk hk hE H hp (.v (.int .i64 l.length)) _ ?_ ?_ _ (by simp) (by simp) (by simp) (by simp)
  ·intro hz e H' h4 h5 hJ;exact hret k hlt hE hz e H' h4 h5 hJ
  ·intro hz e H' f6 f21 f22 f23 hp';simp[RS,f6,f21,f22,f23,hw,hlt];refine⟨λj hj=>?_,hp'⟩;rcases AUD j k with h|h
   ·exact hE j h
   ·have:j=k:=by omega
    subst this;exact hz
 ·have:k=l.length:=by omega
  subst this;rw[if_neg (by omega),AM];simp;rw[AUT]at hp;exact hend hE _ _ (by simp) hp
theorem p13 (h:List Row) (c:Nat) (hc:c <h.length) (hl:∀row∈h,row.low h.length=true) {m:Nat} (hm:m≤2^20) (l:List Rgt) (hok:∀r∈l,r.tiny m) (hn:l.length≤2^30):
  FX 13 [.ref c 0,.v (.list (l.map Rgt.V))] h (if VC l=0 then [.ref (h.length+4) 0,.v (.int .i64 0)] else [.v .nilp,.v (.int .i64 (VC l))]) (if VC l=0 then h++EC (.ref c 0) h.length l else h):=by
 have hd:D.lt h.length (.ref c 0)=true:=by simp[D.lt,hc]
 have q0:PN h (.ref c 0) l (h++(EC (.ref c 0) h.length l++[])):=⟨[],rfl,by simp⟩;rw[AUh]at q0;have p50':=p50 (h++[KM.row ⟨[],[],0⟩]);refine As k13 rfl ?_ ?_ ?_ ?_
 ·split<;>simp
 ·split
  ·exact q0.low hd hl
  ·exact hl
 ·split
  ·simp[D.lt,EC]
  ·simp[D.lt]
 simp only[c13,AB,AA,AF,AE,ABs,ABr,AQ];simp[AD,ABq];simp[KM.row,HM.row]at p50';refine⟨_,_,p50',?_⟩;simp[ABp,AO];have e0:h++[Row.map [] [] 0,Row.map [] [] 0,Row.map [] [] 0,Row.cells [D.mref (h.length+1),D.mref (h.length+1+1)],Row.cells [D.ref c 0,D.mref h.length,D.ref (h.length+1+2) 0]]=h++EC (.ref c 0) h.length []:=by
  simp[EC,kmL,hmL,KM.row,HM.row]
 rw[e0];refine l13 h (.ref c 0) hd hl hm l hok hn _ ?_ ?_
 ·intro k hk hE hz e H' h4 h5 hJ;rw[tT hk hE hz,if_neg hz];simp[vH,h4,h5,hz,hJ]
 ·intro hE e H' h6 hp;obtain⟨J,hJ,-⟩:=hp;simp[LF hE,qE,h6,AG,vH,hJ]
theorem Wr {r:Rgt} (h:r.tiny 3):(Bx r).length≤65536:=by
 have h1:=h.lc;have h2:=h.ld;have h3:=h.lb;have h4:=h.lo;have h5:=h.ll;have e0:=FI h.claims;have e1:=An r.file;have e2:=An r.state;have e3:=An r.force;have e4:=DG (BJ r.claims).length;have e5:=An r.dates.length;have e6:=Dd FH r.dates;have e7:=FG r.bad;have e8:=An r.owners.length;have e9:=Dd FE r.owners;have e10:=An r.lics.length;have e11:=Dd FF r.lics;simp only[Bx,BI,ATr];omega
theorem F0 {r:Rgt} (h:At r=true):0≤r.file∧r.file≤4095:=by
 unfold At at h;simp only[ATn]at h;have:=h.1.1.1.1.1.1.1.1.1;simp only[inI,ATn,decide_eq_true_eq]at this;omega
theorem CC {l:List Int} {r:Rgt} (h:r∈Ad l):r.tiny 3:=by
 obtain⟨i,rfl,_⟩:=DZ h;exact Iz l i
theorem Nl (l:List Int):VC (Ad l)=0:=by
 refine LF λj hj=>?_;obtain⟨r,hr⟩:∃r,(Ad l)[j]?=some r:=⟨_,ATo hj⟩;have hm:=ATq hr;obtain⟨_,_,hf⟩:=DZ hm;have hpw:=C8 l;have hany:((Ad l).take j).any (λq=>q.file==r.file)=false:=by
  rw[AU7];intro q hq;have hsp:Ad l=(Ad l).take j++(Ad l).drop j:=(AUe j _).symm;rw[hsp,AUm]at hpw;have hrd:r∈(Ad l).drop j:=by
   refine ATq (i:=0) ?_;rw[AU0,AVC];exact hr
  have:=hpw.2.2 q hq r hrd;simpa using this
 have hfi:=F0 hf;have hle:=Wr (CC hm);rw[L5 hr,hf,if_pos rfl,hany];simp only[ATx,if_false];unfold IL;rw[if_pos hfi,if_neg (by omega)]
def BS (kind day:Int) (t:Th) (rs:List Rgt) (cl:List (Int×Int)):List V:=
 [.int .i64 kind,.int .i64 0,.int .i64 0,.int .i64 day,AL .i64 t.cs,.list (t.vs.map Val.V),.list (t.ps.map Th.V),.list (rs.map Rgt.V),.list (cl.map BX),.list [],.list [],.list [],.list []]
def DS (kind day:Int) (t:Th) (rs:List Rgt) (cl:List (Int×Int)):V:= .agg (BS kind day t rs cl)
theorem D2 (n:Nat) (kind day:Int) (t:Th) (rs:List Rgt) (cl:List (Int×Int)):Row.low n (.cells ((BS kind day t rs cl).map .v))=true:=by
 simp only[Row.low];exact Sf _
theorem AQV {c0:List (Int×Int)} {ps:List V} {bs:List Bool} (hps:ps.length≤64) (hbs:bs.length=4096) (h:List Row) (x:Nat) (hx:h[x]?=some (CN ps bs)) (hl:Low h) (t:Th) (ht:t.ok) (hte:thE t=0) (htk:t.kinds ps.length=true)
  (kind day:Int) (rs:List Rgt) (hrs:rs.length≤2^10) (r:Rgt) (f i:Int) (hf:rs.find? (λq=>q.file==f)=some r) (hrd:r.dates.length <2^40) (has:Ks ps.length (CM r.claims i))
  (q24:PX 24 [.list (r.claims.map Clm.V),.int .i64 i] [.list ((CM r.claims i).map F.V),.int .i64 0]):
  FX 186 [.ref x 0,.v (DS kind day t rs c0),.v (BX (f,i))] h [.v (.bool (Is (isT ps.length bs) t r i day)),.v (.int .i64 0)] h:=by
 refine As ASr rfl (ATs _) hl (by simp[D.lt]) ?_;have q24:=q24.fsp;have hlow:Low (h++[.cells ((BS kind day t rs c0).map .v),.cells [.v (.int .i64 f),.v (.int .i64 i)]]):=hl.lows (by
  intro row hrow n;simp only[ATt,AT2,or_false]at hrow;rcases hrow with rfl|rfl
  ·exact D2 n _ _ _ _ _
  ·simp[Row.low,D.lts,D.lt])
 have hidx:IdxR Tryz.prog GLx 276 [.ref (h.length+1) 0] (rs.map Rgt.V) (h++[.cells ((BS kind day t rs c0).map .v),.cells [.v (.int .i64 f),.v (.int .i64 i)]]) (rs.findIdx? λq=>q.file==f) (h++[.cells ((BS kind day t rs c0).map .v),.cells [.v (.int .i64 f),.v (.int .i64 i)]]):=
  IdxR.map λq _=>APh q f i _ (h.length+1) (by simp) hlow
 have hcf:=APi (.func 276 [.ref (h.length+1) 0]) 276 _ (FV.r 276 (h.length+1) 0 []) (rs.map Rgt.V) (by simp;omega) (by
  intro x hx;obtain⟨y,_,rfl⟩:=ATw.1 hx;exact⟨_,rfl,rfl⟩) hidx
 obtain⟨j,hj1,hj2⟩:∃j,rs.findIdx? (λq=>q.file==f)=some j∧rs[j]?=some r:=by
  rcases KE (λq:Rgt=>q.file==f) rs with ⟨h1,h2⟩|⟨j,y,h1,h2,h3⟩
  ·rw[h2]at hf;cases hf
  ·rw[hf]at h3;simp only[ATm]at h3;subst h3;exact⟨j,h1,h2⟩
 rw[hj1]at hcf;have hlr:∀n,Row.low n (.cells (r.cs.map .v))=true:=λn=>by simp only[Row.low];exact Sf _
 have hloop:=λ(H:List Row) (hH:Low H) (hxH:H[x]?=some (CN ps bs)) a4 a5 a9 d0 d1 d2 d7 d8 d9 d10 d11 d12 h4 h5 h9 Q hQ=>ARN hps hbs H x hxH hH t ht hte htk r hrd f i day a4 a5 a9 d0 d1 d2 d7 d8 d9 d10 d11 d12 h4 h5 h9 (CM r.claims i) has Q hQ;have hbr:Is (isT ps.length bs) t r i day=EP (isT ps.length bs) t r i day 0 (CM r.claims i):=rfl;rw[hbr];have hloop2:=hloop (h++[.cells ((BS kind day t rs c0).map .v),.cells [.v (.int .i64 f),.v (.int .i64 i)],.cells (r.cs.map .v)]) (by have:=hlow.app (hlr _);simpa using this) (AS _ hx) h.length (h.length+1) (h.length+2);generalize CM r.claims i=al at*;generalize EP (isT ps.length bs) t r i day 0 al=B at*;clear hloop hbr hidx has;obtain⟨cs,vs,pa⟩:=t;obtain⟨file,state,force,claims,dates,bad,owners,lics⟩:=r;simp only[DS,BS,Rgt.cs,Th.cs,Th.vs,Th.ps,BX,AL]at*;simp at hcf q24 hloop2;simp only[AN7,AB,AA,AF,AE,nv,nu,AQ];simp;refine⟨_,_,hcf,?_⟩;simp[nr,CK,hj2,Rgt.V,Rgt.cs,AL,AO,V.getI];simp only[AA,nq];simp;refine⟨_,_,q24 _,?_⟩;simp[AD,np,nn,nl];refine hloop2 _ _ _ _ _ _ _ _ _ rfl rfl rfl rfl rfl rfl rfl rfl rfl _ ?_;intro e J he;simp[AB,AA,UL,he,AG,ABK]
def I7 (rs:List Rgt) (f:Int):Rgt:=(rs.find? λq=>q.file==f).getD ⟨0,0,0,[],[],[],[],[]⟩
def AK3:AC:=(.seq (.seq (.reg PZ [0,3,12,14,15,16,60,61,62,74]) (.cond (.t 74 false) (.seq (.reg XO [4,5,6]) .ret) .skip)) (.seq (.reg PY [0,3,12,14,60,61,62,76]) (.cond (.t 76 false) (.reg PW [0,3,12,60,61,62]) .skip)))
theorem XW:XX=(.seq (.reg Pc [0,3,12,60,61,62,63]) (.seq (.cond (.t 63 false) .skip (.exit 3)) (.seq (.block 4 (.seq (.reg Pb [0,3,12,14,60,61,62]) (.seq (.reg Pa [0,3,12,14,15,16,60,61,62]) AK3))) (.reg MT [0,3,12,60,61,62])))):=rfl
theorem l90 {c0:List (Int×Int)} (h:List Row) (x:Nat) (kind day:Int) (t:Th) (rs:List Rgt) (cl:List (Int×Int)) (hcl:cl.length≤2^20) (b:Int×Int→Bool)
  (WL:∀c∈cl,∀Z,Lows Z→FX 186 [.ref x 0,.v (DS kind day t rs c0),.v (BX c)] (h++ .cells ((BS kind day t rs c0).map .v)::Z) [.v (.bool (b c)),.v (.int .i64 0)] (h++ .cells ((BS kind day t rs c0).map .v)::Z)) (Q:AExit→St→Prop)
  (hQ:∀e J,AH e 12= .own 76 2 ((cl.filter b).map BX)→Q (.exit 3) ⟨e,h++ .cells ((BS kind day t rs c0).map .v)::J⟩):
  awp Tryz.prog GLx (.loop XX) Q ⟨[(0,.ref x 0),(3,.ref h.length 0),(12,.own 76 2 []),(60,.v (.list (cl.map BX))),(61,.v (.int .i64 cl.length)),(62,.v (.int .i64 (0:Nat)))],h++[.cells ((BS kind day t rs c0).map .v)]⟩:=by
 refine Ae cl.length (λk s=>∃J,Lows J∧s=⟨[(0,.ref x 0),(3,.ref h.length 0),(12,.own 76 2 (((cl.take k).filter b).map BX)),(60,.v (.list (cl.map BX))),(61,.v (.int .i64 cl.length)),(62,.v (.int .i64 k))],h++ .cells ((BS kind day t rs c0).map .v)::J⟩)
  ⟨[],Lows.nil,by simp⟩ ?_
 rintro k s hk ⟨J,hJ,rfl⟩;rw[XW];simp only[AB,AA,AF,AE,Pc];simp;by_cases hkl:k <cl.length
 ·obtain⟨c,hc⟩:∃c,cl[k]?=some c:=⟨_,ATo hkl⟩;have w1:IntKind.i64.wrap ((k:Int)+1)=k+1:=AJ;have htk2:cl.take (k+1)=cl.take k++[c]:=by rw[AUE,hc];rfl
  have hlc:∀n,Row.low n (.cells [.v (.int .i64 c.1),.v (.int .i64 c.2)])=true:=λn=>by simp[Row.low,D.lts,D.lt]
  have q1:=WL c (ATq hc) (J++[.cells [.v (.int .i64 c.1),.v (.int .i64 c.2)]]) (hJ.app hlc);have hlen:((cl.take k).filter b).length≤k:=by
   have:=AUi b (cl.take k);rw[AUI]at this;omega
  rw[htk2,AVO,AVP,AVy];generalize (cl.take k).filter b=L at*;have hroom:Ah (L.length+1) 16=true:=by simp[Ah];omega
  generalize b c=B at*;obtain⟨c1,c2⟩:=c;obtain⟨cs,vs,pa⟩:=t;simp only[DS,BS,Th.cs,Th.vs,Th.ps,BX,AL]at*;simp at q1;rw[if_pos (by omega),AD];simp only[AA,Pb];simp[hc,AO,BX];simp only[AA,Pa];simp;refine⟨_,_,q1,?_⟩;unfold AK3;simp[AB,AA,AE,PZ,AD,PY];cases B with
  |false=>
   simp[AD,AA,MT,w1,hkl];exact hJ.app hlc
  |true=>
   simp[AA,PW,hroom,MT,w1,hkl,BX];exact hJ.app hlc
 ·have hk2:k=cl.length:=by omega
  subst hk2;rw[if_neg (by omega),AM,AUT];exact hQ _ _ rfl
theorem AH7 {c0:List (Int×Int)} (h:List Row) (x:Nat) (day:Int) (t:Th) (rs:List Rgt) (cl:List (Int×Int)) (hl:Low h)
  (VD:∀Z,Lows Z→FX 185 [.ref x 0,.v (.list (rs.map Rgt.V)),.v t.V] (h++Z) [.own 76 2 (cl.map BX),.v (.int .i64 0)] (h++Z)):
  FX 90 [.ref x 0,.v (DS 1 day t rs c0)] h [.v (.list (cl.map BX)),.own 3 1 [],.v (.int .i64 0)] h:=by
 refine As k90 rfl (ATs _) hl (by simp[D.lt]) ?_;have q1:=VD [.cells ((BS 1 day t rs c0).map .v)] (by
  intro row hrow n;rw[ATy.1 hrow];exact D2 n _ _ _ _ _)
 obtain⟨cs,vs,pa⟩:=t;simp only[DS,BS,Th.cs,Th.vs,Th.ps,AL]at*;simp[Th.V_eq,AL]at q1;simp only[c90,AB,AA,AF,AE,XV,XU,AQ];simp;simp[XP,Pg,AD];simp only[AB,AA,Pe];simp;refine⟨_,_,q1,?_⟩;simp[Pd,AB,AA,XS,AG,uI]
theorem AH6 {c0:List (Int×Int)} (h:List Row) (x:Nat) (day:Int) (t:Th) (rs:List Rgt) (cl:List (Int×Int)) (hcl:cl.length≤2^20) (hl:Low h) (b:Int×Int→Bool)
  (VD:∀Z,Lows Z→FX 185 [.ref x 0,.v (.list (rs.map Rgt.V)),.v t.V] (h++Z) [.own 76 2 (cl.map BX),.v (.int .i64 0)] (h++Z))
  (WL:∀c∈cl,∀Z,Lows Z→FX 186 [.ref x 0,.v (DS 3 day t rs c0),.v (BX c)] (h++ .cells ((BS 3 day t rs c0).map .v)::Z) [.v (.bool (b c)),.v (.int .i64 0)] (h++ .cells ((BS 3 day t rs c0).map .v)::Z)):
  FX 90 [.ref x 0,.v (DS 3 day t rs c0)] h [.own 76 2 ((cl.filter b).map BX),.own 3 1 [],.v (.int .i64 0)] h:=by
 refine As k90 rfl (ATs _) hl (by simp[D.lt]) ?_;have q1:=VD [.cells ((BS 3 day t rs c0).map .v)] (by
  intro row hrow n;rw[ATy.1 hrow];exact D2 n _ _ _ _ _)
 have hloop:=l90 h x 3 day t rs cl hcl b WL;obtain⟨cs,vs,pa⟩:=t;simp only[DS,BS,Th.cs,Th.vs,Th.ps,AL]at*;simp[Th.V_eq,AL]at q1 hloop;simp only[c90,AB,AA,AF,AE,XV,XU,AQ];simp;simp[XP,Pg,AD];simp only[AA,XT];simp;simp only[AB,AA,Pe];simp;refine⟨_,_,q1,?_⟩;simp[Pd,AD,AA,XR,XQ];refine hloop _ ?_;intro e J he;simp[AB,AA,XN,he,AG,uI]
open Go.Proofs Go.Shelf Go.Maps Go.Sort
def N8:Ren:=⟨λ|6=>237|8=>298|9=>299|11=>326|13=>328|12=>327|23=>348|24=>349|14=>340|15=>341|16=>342|17=>343|18=>344|19=>345|20=>284|21=>346|22=>347|25=>354|26=>355|27=>356|28=>357|29=>358|30=>321|31=>359|n=>n,λ|26=>3|28=>352|24=>22|0=>0|3=>3|37=>257|48=>428|50=>47|4=>4|40=>421|39=>420|45=>425|5=>5|9=>9|51=>431|55=>409|57=>435|58=>175|33=>248|n=>n,λn=>n⟩
theorem AQ4:SlLaysZI.n6 Tryz.prog N8 where
 mixed:=by kernel_rfl
 f6:=⟨Tryz.f237.name,by kernel_rfl,Tryz.func237.trans (congrArg some (by kernel_rfl))⟩
 f8:=⟨Tryz.f298.name,by kernel_rfl,Tryz.func298.trans (congrArg some (by kernel_rfl))⟩
 f11:=⟨Tryz.f326.name,by kernel_rfl,Tryz.func326.trans (congrArg some (by kernel_rfl))⟩
 t0:=Tryz.underlying0
 a0:=Tryz.isAgg0
 z0:=Tryz.sizeOf0
 v0:=Tryz.zeroValue0
 t24:=Tryz.underlying22
 a24:=Tryz.isAgg22
 z24:=Tryz.sizeOf22
 v24:=Tryz.zeroValue22
 t26:=Tryz.underlying3
 a26:=Tryz.isAgg3
 z26:=Tryz.sizeOf3
 v26:=Tryz.zeroValue3
 t28:=Tryz.underlying352
 a28:=Tryz.isAgg352
 z28:=Tryz.sizeOf352
 v28:=Tryz.zeroValue352
 i26:=by kernel_rfl
def WW:Ren:=⟨λ|5=>299|8=>328|7=>327|19=>348|20=>349|10=>340|11=>341|12=>342|13=>343|14=>344|15=>345|16=>284|17=>346|18=>347|30=>354|31=>355|32=>356|33=>357|34=>358|35=>321|40=>359|n=>n,λ|23=>22|25=>3|3=>3|32=>257|22=>22|0=>0|44=>428|46=>47|4=>4|36=>421|35=>420|41=>425|5=>5|9=>9|53=>431|57=>409|63=>435|64=>175|n=>n,λn=>n⟩
theorem AIm:SlLaysM.n5 Tryz.prog WW where
 mixed:=by kernel_rfl
 f5:=⟨Tryz.f299.name,by kernel_rfl,Tryz.func299.trans (congrArg some (by kernel_rfl))⟩
 f7:=⟨Tryz.f327.name,by kernel_rfl,Tryz.func327.trans (congrArg some (by kernel_rfl))⟩
 f8:=Tryz.func328.trans (congrArg some (by kernel_rfl))
 f10:=⟨Tryz.f340.name,by kernel_rfl,Tryz.func340.trans (congrArg some (by kernel_rfl))⟩
 f11:=⟨Tryz.f341.name,by kernel_rfl,Tryz.func341.trans (congrArg some (by kernel_rfl))⟩
 f12:=⟨Tryz.f342.name,by kernel_rfl,Tryz.func342.trans (congrArg some (by kernel_rfl))⟩
 f13:=⟨Tryz.f343.name,by kernel_rfl,Tryz.func343.trans (congrArg some (by kernel_rfl))⟩
 f14:=⟨Tryz.f344.name,by kernel_rfl,Tryz.func344.trans (congrArg some (by kernel_rfl))⟩
 f15:=⟨Tryz.f345.name,by kernel_rfl,Tryz.func345.trans (congrArg some (by kernel_rfl))⟩
 f16:=⟨Tryz.f284.name,by kernel_rfl,Tryz.func284.trans (congrArg some (by kernel_rfl))⟩
 f17:=⟨Tryz.f346.name,by kernel_rfl,Tryz.func346.trans (congrArg some (by kernel_rfl))⟩
 f18:=⟨Tryz.f347.name,by kernel_rfl,Tryz.func347.trans (congrArg some (by kernel_rfl))⟩
 f19:=Tryz.func348.trans (congrArg some (by kernel_rfl))
 f20:=Tryz.func349.trans (congrArg some (by kernel_rfl))
 f30:=⟨Tryz.f354.name,by kernel_rfl,Tryz.func354.trans (congrArg some (by kernel_rfl))⟩
 f31:=Tryz.func355.trans (congrArg some (by kernel_rfl))
 f32:=Tryz.func356.trans (congrArg some (by kernel_rfl))
 f33:=⟨Tryz.f357.name,by kernel_rfl,Tryz.func357.trans (congrArg some (by kernel_rfl))⟩
 f34:=⟨Tryz.f358.name,by kernel_rfl,Tryz.func358.trans (congrArg some (by kernel_rfl))⟩
 f35:=⟨Tryz.f321.name,by kernel_rfl,Tryz.func321.trans (congrArg some (by kernel_rfl))⟩
 f40:=⟨Tryz.f359.name,by kernel_rfl,Tryz.func359.trans (congrArg some (by kernel_rfl))⟩
 t0:=Tryz.underlying0
 a0:=Tryz.isAgg0
 z0:=Tryz.sizeOf0
 v0:=Tryz.zeroValue0
 t3:=Tryz.underlying3
 a3:=Tryz.isAgg3
 z3:=Tryz.sizeOf3
 v3:=Tryz.zeroValue3
 t4:=Tryz.underlying4
 a4:=Tryz.isAgg4
 z4:=Tryz.sizeOf4
 v4:=Tryz.zeroValue4
 t5:=Tryz.underlying5
 a5:=Tryz.isAgg5
 z5:=Tryz.sizeOf5
 v5:=Tryz.zeroValue5
 t9:=Tryz.underlying9
 a9:=Tryz.isAgg9
 z9:=Tryz.sizeOf9
 v9:=Tryz.zeroValue9
 t22:=Tryz.underlying22
 a22:=Tryz.isAgg22
 z22:=Tryz.sizeOf22
 v22:=Tryz.zeroValue22
 t23:=Tryz.underlying22
 a23:=Tryz.isAgg22
 z23:=Tryz.sizeOf22
 v23:=Tryz.zeroValue22
 t25:=Tryz.underlying3
 a25:=Tryz.isAgg3
 z25:=Tryz.sizeOf3
 v25:=Tryz.zeroValue3
 t32:=Tryz.underlying257
 a32:=Tryz.isAgg257
 z32:=Tryz.sizeOf257
 v32:=Tryz.zeroValue257
 t35:=Tryz.underlying420
 a35:=Tryz.isAgg420
 z35:=Tryz.sizeOf420
 v35:=Tryz.zeroValue420
 t36:=Tryz.underlying421
 a36:=Tryz.isAgg421
 z36:=Tryz.sizeOf421
 v36:=Tryz.zeroValue421
 t41:=Tryz.underlying425
 a41:=Tryz.isAgg425
 z41:=Tryz.sizeOf425
 v41:=Tryz.zeroValue425
 t44:=Tryz.underlying428
 a44:=Tryz.isAgg428
 z44:=Tryz.sizeOf428
 v44:=Tryz.zeroValue428
 t46:=Tryz.underlying47
 a46:=Tryz.isAgg47
 z46:=Tryz.sizeOf47
 v46:=Tryz.zeroValue47
 t53:=Tryz.underlying431
 a53:=Tryz.isAgg431
 z53:=Tryz.sizeOf431
 v53:=Tryz.zeroValue431
 t57:=Tryz.underlying409
 a57:=Tryz.isAgg409
 z57:=Tryz.sizeOf409
 v57:=Tryz.zeroValue409
 t63:=Tryz.underlying435
 a63:=Tryz.isAgg435
 z63:=Tryz.sizeOf435
 v63:=Tryz.zeroValue435
 t64:=Tryz.underlying175
 a64:=Tryz.isAgg175
 z64:=Tryz.sizeOf175
 v64:=Tryz.zeroValue175
theorem ACY (m:Nat):AnyZI.SortsIn Tryz.prog N8 Fence.wide m:=
 ⟨λblk off cap ss W hH hblk hsz=>callsIn_wide.2 (AnyM.slices_Sort_int AIm blk off cap ss W hH hblk hsz),
  λp cap W=>callsIn_wide.2 (AnyM.slices_Sort_int_none AIm p cap W)⟩
def ER (l:List Int):List Int:=l.mergeSort (λx y=>decide (x≤y))
theorem AP4 {h:List Row} {r m:Nat} {es:List (V×V)} {st:List Nat} {ck:Nat} {ks:List Int}
  (hr:h[r]?=some (.cells [.mref m])) (hm:h[m]?=some (.map es st ck)) (he:es.map (·.1)=ks.map (.int .i64)) (h1:ks.length≤2^30) (hw:∀k∈ks,i64 k):
  FX 237 [.func 300 [.ref r 0]] h [.own 3 1 ((ER ks).map (.int .i64))] h:=by
 refine⟨by kernel_rfl,λg w μ us O hinv hgl hall htame=>?_⟩;obtain⟨hlen,Ba⟩:=hall;obtain⟨u,rfl⟩:∃u,us=[u]:=by
  match us,hlen with
  |[u],_=>exact⟨u,rfl⟩
 have hu:RepE g w μ (.func 300 [.ref r 0]) u:=Ba 0 _ u rfl rfl;obtain⟨vs,rfl,hvs⟩:=hu;obtain⟨c,rfl⟩:∃c,vs=[c]:=by
  match vs,hvs.1 with
  |[c],_=>exact⟨c,rfl⟩
 have hc:RepC g μ (.ref r 0) c:=hvs.2 0 _ c rfl rfl;obtain⟨br,hbr,rfl⟩:=hc;obtain⟨rs,T,hb,ha,h1c,hno⟩:=hinv.rows r _ br hr hbr;obtain⟨x,rfl⟩:∃x,rs=[x]:=by
  match rs,ha.1 with
  |[x],_=>exact⟨x,rfl⟩
 have hx:RepE g w μ (.mref m) x:=ha.2 0 _ x rfl rfl;obtain⟨bm,hbm,rfl⟩:=hx;obtain⟨ents,hmb,hst,hborn,hal,hno2⟩:=hinv.rows m _ bm hm hbm;have hel:ents.toList.length=ks.length:=by
  have e1:=congrArg List.length he;simp only[AT9]at e1;rw[hal.1,e1]
 have hkey:∀(i:Nat) (y:MapEntry),ents.toList[i]?=some y→∃k,ks[i]?=some k∧y.key= .int .i64 k:=by
  intro i y hy;have hi:i <ents.toList.length:=(ATp.1 hy).1;obtain⟨kv,hkv⟩:∃kv,es[i]?=some kv:=⟨_,ATo (by rw[←hal.1];exact hi)⟩;have h2:=(hal.2 i kv y hkv hy).1;have h3:(es.map (·.1))[i]?=some kv.1:=by simp[hkv]
  rw[he]at h3;simp only[AT0,ATv]at h3;obtain⟨k,hk,hk2⟩:=h3;refine⟨k,hk,?_⟩;rw[←hk2]at h2;generalize y.key=yk at h2 ⊢;cases h2;rfl
 have hkl:∀k∈ks,keyOf Tryz.prog 3 (.int .i64 k)=some (.int .i64 k):=by
  intro k hk;have h2:=hw k hk;simp only[i64]at h2;have h3:(Lit.int .i64 k).wf=true:=by
   simp only[Lit.wf,ATn,decide_eq_true_eq,IntKind.min,IntKind.max,IntKind.signed,IntKind.bits];simp;omega
  simp[keyOf,mapKey,Tryz.underlying3,h3]
 have hrd:∀(i:Nat) (y:MapEntry),ents.toList[i]?=some y→∃k,ks[i]?=some k∧Go.WideElems.rd Tryz.prog 3 RK y=some (.int .i64 k,.nil):=by
  intro i y hy;obtain⟨k,hk,hy2⟩:=hkey i y hy;refine⟨k,hk,?_⟩;simp[Go.WideElems.rd,hy2,hkl k (ATq hk),RK]
 have hown:w.ownsMap Tryz.prog 3 RK bm ks.length (.map ((ents.toList.map (Go.WideElems.rg Tryz.prog 3 RK)).foldr DataW.insert [])):=by
  refine⟨ents,ck,hmb,⟨?_,hst,?_⟩,?_,rfl⟩
  ·have:ents.size≤2^30:=by rw[←AVo,hel];exact h1
   exact AUV this (by decide)
  ·intro y hy;obtain⟨i,hi⟩:=AVH.1 hy;obtain⟨k,_,hk⟩:=hrd i y hi;exact⟨_,hk⟩
  ·rw[←AVo,hel];exact ATs _
 have hsz:Maps.size (.map ((ents.toList.map (Go.WideElems.rg Tryz.prog 3 RK)).foldr DataW.insert []):DataW Unit)=ks.length:=by
  show ((ents.toList.map (Go.WideElems.rg Tryz.prog 3 RK)).foldr DataW.insert []).length=ks.length;rw[(Go.WideShapes.sorted_perm _).length_eq,AT9,hel]
 have hik:(intKeys (.map ((ents.toList.map (Go.WideElems.rg Tryz.prog 3 RK)).foldr DataW.insert []):DataW Unit)).Perm ks:=by
  have e1:((ents.toList.map (Go.WideElems.rg Tryz.prog 3 RK)).map λp=>intOf p.1)=ks:=by
   apply AUa;intro i;simp only[AT0];cases hy:ents.toList[i]? with
   |none=>
    have:=List.getElem?_eq_none_iff.1 hy;rw[AUO (by omega)];rfl
   |some y=>
    obtain⟨k,hk,hk2⟩:=hrd i y hy;simp[Go.WideElems.rg,hk2,hk,intOf]
  have e2:=(Go.WideShapes.sorted_perm (ents.toList.map (Go.WideElems.rg Tryz.prog 3 RK))).map (λp=>intOf p.1);rw[e1]at e2;exact e2
 have hlt:br <w.heap.size:=BB hb;have hseq:=AnyZI.keys_gives wD Fence.wide 2 trivial rfl (by omega) br bm ks.length _ w hlt (by simp[World.cell?,hb]) hown;have cS:=AnyZI.sorted_in AQ4 Fence.wide 5 trivial trivial trivial trivial rfl (by omega) (ACY _) (enters_of Tryz.func299 (by kernel_rfl) rfl) 300 #[.pointer (some ⟨br,0,none⟩)] trivial (enters_of Tryz.func300 (by kernel_rfl) rfl) _ _ (by rw[hsz];exact AUV h1 (by decide)) (by rw[hsz];omega) w hseq;refine(callsIn_wide.1 cS).mono ?_;rintro e w' ⟨v,ss,rfl,hS,hrow,hnil,hbel⟩;have hperm:ss.Perm ks:=hS.trans hik;have hsort:ss.mergeSort (λx y=>decide (x≤y))=ER ks:=mergeSort_of_perm_i hperm;rw[hsort]at hrow;have hsl:(ER ks).length=ss.length:=by rw[←hsort];exact List.length_mergeSort _
 obtain⟨S,hSS⟩:∃S,S=ER ks:=⟨_,rfl⟩;rw[←hSS]at hrow hsl ⊢;have hagree:∀b o v,g.m b o=some v→b <w.heap.size∧w'.cell? ⟨b,o,none⟩=some v:=by
  intro b o v hv;have h2:=hinv.agree b o v hv;have h3:b <w.heap.size:=by
   rcases AUD b w.heap.size with h'|h'
   ·exact h'
   ·simp[World.cell?,AVA h']at h2
  exact⟨h3,by rw[World.cell?_of_block (a:=⟨b,o,none⟩) (hbel.block b h3)];exact h2⟩
 rcases hrow with ⟨hl2,⟨rfl,hz⟩|⟨gb,cap,cur,rfl,hbase,hgb,r1,r2,r3,r4⟩⟩
 ·obtain rfl:S=[]:=AUQ (by rw[hsl,hz]);have hc:Chg (λ_=>False) g w g w':=⟨Gh.le.refl g,hbel.size,λb hb _=>hbel.block b hb,λb hb _ o=>rfl,hbel.os,hbel.output⟩;exact⟨_,g,μ,rfl,hinv.newOwn (d:=0) hc (λb o v hv=>(hagree b o v hv).2) (.inl ⟨none,rfl,rfl,by simp⟩) (by simp[AW]),hc.mono λ_ h=>h.elim,ATu _⟩
 ·have hpos:0 <ss.length:=by
   rcases AVp ss.length with h0|h0
   ·have:=hnil.2 (AUQ h0);cases this
   ·exact h0
  have hnone:∀b,w.heap.size≤b→∀o,g.m b o=none:=by
   intro b hb2 o;cases h4:g.m b o with
   |none=>rfl
   |some v=>have:=(hagree b o v h4).1;omega
  let g':Gh:=⟨λb o=>if b=gb then (S[o]?).map (Value.int .i64) else g.m b o⟩
  have hc:Chg (λ_=>False) g w g' w':=by
   refine⟨λb o v hv=>?_,hbel.size,λb hb _=>hbel.block b hb,λb hb _ o=>?_,hbel.os,hbel.output⟩
   ·by_cases hbg:b=gb
    ·subst hbg;rw[hnone b hbase]at hv;cases hv
    ·simpa[g',hbg]using hv
   ·have hbg:b≠gb:=by omega
    simp[g',hbg]
  have hcur:∀(o:Nat) (x:Int),S[o]?=some x→cur[o]?=some (.int .i64 x):=by
   intro o x hx;have ho:o <S.length:=(ATp.1 hx).1;have h2:(cur.toList.take (ss.length*1))[o]?=some (.int .i64 x):=by
    rw[r4,AT0,hx];rfl
   rw[List.getElem?_take_of_lt (by omega)]at h2;rw[←AUW];exact h2
  have hag:∀b o v,g'.m b o=some v→w'.cell? ⟨b,o,none⟩=some v:=by
   intro b o v hv;by_cases hbg:b=gb
   ·subst hbg;simp only[g',if_true,ATv]at hv;obtain⟨x,hx,rfl⟩:=hv;simp[World.cell?,hgb,hcur o x hx]
   ·simp only[g',hbg,if_false]at hv;exact(hagree b o v hv).2
  have hSl:(S.map (V.int .i64)).length=ss.length:=by rw[AT9,hsl]
  refine⟨_,g',μ,rfl,hinv.newOwn (d:=0) (e:=3) (s:=1) (xs:=S.map (.int .i64)) hc hag (.inr ⟨gb,cap,cur,λi=> .int .i64 (S.getD i 0),by rw[hSl],by omega,hgb,by rw[hSl];exact r1,by simpa using r3,?_,?_,?_⟩) ?_,hc.mono λ_ h=>h.elim,ATu _⟩
  ·intro i x hx;simp only[AT0,ATv]at hx;obtain⟨n,hn,rfl⟩:=hx;have:S.getD i 0=n:=by simp[List.getD,hn]
   show RepV g' (V.int .i64 n) (Value.int .i64 (S.getD i 0));rw[this];exact .int _ _
  ·intro i hi;have hi':i <S.length:=by simpa using hi
   refine⟨rfl,λj v hv=>?_⟩
   match j with
   |0=>
    simp[Value.cells]at hv;subst hv;simp[g',hi']
   |j+1=>simp[Value.cells]at hv
  ·intro o ho;have:S.length≤o:=by simpa using ho
   simp[g',AUO this]
  ·intro b hb2;simp only[AW]at hb2;split at hb2
   ·cases hb2
   ·simp only[ATm]at hb2;rw[←hb2];exact hbase
theorem AIY:PX 177 [.int .i64 0,.int .i64 4095] [.bool true]:=by
 refine AK AJ3 rfl ?_;have q1:=(ACn 0).fsp;have q2:=(ACn 4095).fsp;simp at q1 q2;simp only[AGv,AB,AA,oM,oL,AY];simp;refine⟨_,_,q1 _,?_⟩;simp;refine⟨_,_,q2 _,?_⟩;simp[AG,oN]
theorem AP3 (h:List Row) (m:Nat):FX 238 [.mref m] h [.func 300 [.ref h.length 0]] (h++[.cells [.mref m]]):=by
 refine AN AJi rfl ?_;simp[AFd,awp,jk,jj,jl,AQ,D.vs?,D.v?]
theorem AP2 (a b:Int) (h:List Row):FX 239 [.v (.int .i64 a),.v (.int .i64 b)] h [.func 301 [.ref h.length 0,.ref (h.length+1) 0]] (h++[.cells [.v (.int .i64 a)],.cells [.v (.int .i64 b)]]):=by
 refine AN AJh rfl ?_;simp[AFc,awp,jh,jg,ji,AQ,D.vs?,D.v?]
theorem AIR:PX 240 [Ge 12 0] [.int .i64 4095]:=by
 refine AK AJg rfl ?_;have w1:IntKind.i64.wrap ((0:Int)+1)=1:=by decide
 have w2:IntKind.i64.wrap (1*2^(min (Int.toNat 12) IntKind.i64.bits))=4096:=by decide
 have w3:IntKind.i64.wrap (4096-1)=4095:=by decide
 simp only[AFb,AB,AA,je,jd,AY,Ge];simp;simp[AG,jf]
 try decide
theorem AIN:PX 271 [Ge 12 0] [.int .i64 0]:=by
 refine AK AJd rfl ?_;simp only[AFV,AB,AA,gD,gC,AY,Ge];simp;simp[AG,gE]
 try decide
theorem AIH (H:List Row) (x y z u:Nat) (hx:H[x]?=some (.cells [.v (.int .i64 0)])) (hy:H[y]?=some (.cells [.v (.int .i64 4095)])):
  FX 302 [.v (Ge 12 0),.ref x 0,.ref y 0,.ref z 0,.ref u 0] H [.v (.bool true)] (H++[.cells [.v (.int .i64 12),.v (.int .i64 0)]]):=by
 refine AN AJW rfl ?_;have q1:=AIR;have q2:=AIN;have hx':=AS [.cells [.v (.int .i64 12),.v (.int .i64 0)]] hx;have hy':=AS [.cells [.v (.int .i64 12),.v (.int .i64 0)]] hy;simp[Ge]at q1 q2;simp only[AFD,AB,AA,Aa,AE,cj,ci,AQ,Ge];simp;refine⟨_,_,⟨rfl,rfl⟩,_,q1,?_⟩
 try simp[hx']
 refine⟨_,_,⟨rfl,rfl⟩,_,q2,?_⟩;simp[hy',AD,cg]
 try simp only[Aa]
 try simp
 refine⟨_,_,⟨rfl,rfl⟩,_,q2,?_⟩
 try simp[hx']
 refine⟨_,_,⟨rfl,rfl⟩,_,q1,?_⟩;simp[hy',AB,AA,cf,AG,cm]
theorem AII (r:Nat) (X:List Row) (x y:Nat) (hx:X[x]?=some (.cells [.v (.int .i64 0)])) (hy:X[y]?=some (.cells [.v (.int .i64 4095)])):
  FX 301 [.yld r,.ref x 0,.ref y 0] X [] (X++[.cells [.yld r],.cells [.func 302 [.ref x 0,.ref y 0,.ref X.length 0,.ref (X.length+1) 0]],.cells [.v (.int .i64 12),.v (.int .i64 0)]]):=by
 refine AN AJX rfl ?_;have q:=AIH (X++[.cells [.yld r],.cells [.func 302 [.ref x 0,.ref y 0,.ref X.length 0,.ref (X.length+1) 0]]]) x y X.length (X.length+1) (AS _ hx) (AS _ hy);simp[Ge]at q;simp only[AFE,AB,AA,cr,cq,co,cn,AQ];simp[AO,D.vs?,D.v?];refine⟨⟨_,q⟩,?_⟩
 try simp[ct]
def Ku (K:KM) (k:Int):List Int:=((K.E.find? λx=>x.1==k).map (·.2)).getD []
def Gi (K:KM) (k:Int):V:= .agg [.int .i64 k,AL .u8 (Ku K k)]
theorem AIl (K:KM) (k:Int) (hk:k∈K.E.map (·.1)):∃i,Cl false [0] (.int .i64 k) (K.E.map F5)=some (some i)∧(K.E.map F5)[i]?=some (.int .i64 k,AL .u8 (Ku K k)):=by
 have hf:=KE (λx:Int×List Int=>x.1==k) K.E;obtain⟨x,hx,rfl⟩:=ATw.1 hk;rcases hf with ⟨h1,h2⟩|⟨i,y,h1,h2,h3⟩
 ·rw[List.find?_eq_none]at h2;exact absurd (h2 x hx) (by simp)
 ·refine⟨i,by rw[JX,h1],?_⟩;have hy:y.1=x.1:=by have:=List.find?_some h3;simpa using this
  rw[AT0,h2];simp[F5,Ku,h3,hy]
theorem ARS (H:List Row) (t a:Nat) (d2:D) (K:KM) (ht:∀Z,(H++Z)[t]?=some (.cells [.mref a,d2])) (ha:∀Z,(H++Z)[a]?=some K.row) (S:List Int) (hS:∀k∈S,k∈K.E.map (·.1)) (hr:∀k∈S,0≤k∧k≤4095) (hn:S.length≤2^30) (hv:∀x∈K.E,x.2.length≤2^39)
  (R7:Row) (X:List Row) (Q:AExit→St→Prop)
  (hQ:Q (.exit 0) ⟨[(2,.v (.int .i64 4095)),(3,.ref H.length 0),(4,.ref (H.length+1) 0),(7,.ref (H.length+2) 0),(9,.own 193 2 (S.map (Gi K))),(26,.own 3 1 (S.map (.int .i64))),(27,.v (.int .i64 S.length)),(28,.v (.int .i64 S.length)),(29,.v (.bool false))],H++(.cells [.ref t 0]:: .cells [.v (.int .i64 0)]::R7::X)⟩):
  awp Tryz.prog GLx (.loop RY) Q ⟨[(2,.v (.int .i64 4095)),(3,.ref H.length 0),(4,.ref (H.length+1) 0),(7,.ref (H.length+2) 0),(9,.own 193 2 []),(26,.own 3 1 (S.map (.int .i64))),(27,.v (.int .i64 S.length)),(28,.v (.int .i64 (0:Nat)))],H++(.cells [.ref t 0]:: .cells [.v (.int .i64 0)]::R7::X)⟩:=by
 refine Ac S.length (λk=>⟨[(2,.v (.int .i64 4095)),(3,.ref H.length 0),(4,.ref (H.length+1) 0),(7,.ref (H.length+2) 0),(9,.own 193 2 ((S.take k).map (Gi K))),(26,.own 3 1 (S.map (.int .i64))),(27,.v (.int .i64 S.length)),(28,.v (.int .i64 k))],H++(.cells [.ref t 0]:: .cells [.v (.int .i64 0)]::R7::X)⟩) (by simp) ?_;intro k hk;simp only[RY,AB,AA,AF,AE,qY];simp;by_cases h1:k <S.length
 ·obtain⟨s,hs⟩:∃s,S[k]?=some s:=⟨_,ATo h1⟩;have hsm:=ATq hs;obtain⟨i,hi1,hi2⟩:=AIl K s (hS s hsm);have hb:=hr s hsm;have w1:IntKind.i64.wrap ((k:Int)+1)=k+1:=AJ;have htk:(S.map (Gi K)).take (k+1)=(S.map (Gi K)).take k++[Gi K s]:=by rw[AUE,AT0,hs];rfl
  have hvl:(Ku K s).length≤2^45:=by
   unfold Ku;cases hf:K.E.find? λx=>x.1==s with
   |none=>simp
   |some y=>
    have:=hv y (List.mem_of_find?_eq_some hf);simp;omega
  have q:=(wA (Ku K s) hvl).fsp;have ha':∀Z,(H++Z)[a]?=some (.map (K.E.map F5) K.st K.ck):=ha;have hpv:Gi K s= .agg [.int .i64 s,AL .u8 (Ku K s)]:=rfl;have hm:min k S.length=k:=by omega
  have hroom:Ah (k+1) 32=true:=by simp[Ah];omega
  rw[htk,hpv];generalize Ku K s=bs at*;simp[AL]at q;simp only[AL]at hi2;rw[if_pos (by omega),AD];simp only[AA,qX];simp[hs];simp only[AA,qW];simp[hb];simp only[AA,qV];simp[ht,ha',Be,V.eqL,V.eq1,hi1,hi2,Dv,-List.getElem?_map];refine⟨_,_,q _,?_⟩;simp[hm,hroom,qU,w1,h1,AL,AO]
 ·have hk2:k=S.length:=by omega
  subst hk2;rw[if_neg (by omega),AM];change Q (.exit 0) _;rw[AUG (by simp)];simpa using hQ
theorem AQs (h:List Row) (hl:Low h) (t a:Nat) (d2:D) (K:KM) (ht:h[t]?=some (.cells [.mref a,d2])) (ha:h[a]?=some K.row) (hn:K.E.length≤2^30) (hk:∀x∈K.E,(0≤x.1∧x.1≤4095)∧x.2.length≤2^39):
  FX 137 [.ref t 0,.v (.int .i64 0),.v (.int .i64 4095)] h [.own 193 2 ((ER (K.E.map (·.1))).map (Gi K)),.v (.agg [.list [],.list [],.list []]),.v (.int .i64 0)] h:=by
 refine As AJ7 rfl (ATs _) hl (by simp[D.lt]) ?_;have hperm:(ER (K.E.map (·.1))).Perm (K.E.map (·.1)):=AWZ _ _;have hlen:(ER (K.E.map (·.1))).length=K.E.length:=by rw[hperm.length_eq,AT9]
 have hSm:∀k∈ER (K.E.map (·.1)),k∈K.E.map (·.1):=λk hk=>hperm.mem_iff.1 hk;have hSr:∀k∈ER (K.E.map (·.1)),0≤k∧k≤4095:=by
  intro k hkk;obtain⟨x,hx,rfl⟩:=ATw.1 (hSm k hkk);exact(hk x hx).1
 have q1:=AIY.fsp;have q2:=λZ=>AP3 (h++Z) a;have ha':∀Z,(h++Z)[a]?=some (.map (K.E.map F5) K.st K.ck):=λZ=>AS Z ha;have ht':∀Z,(h++Z)[t]?=some (.cells [.mref a,d2]):=λZ=>AS Z ht;have q3:=λZ (r:Nat) (hr:(h++Z)[r]?=some (.cells [.mref a]))=>AP4 (h:=h++Z) (m:=a) (es:=K.E.map F5) (ks:=K.E.map (·.1)) hr (ha' Z) (by rw[AVN,AVN];rfl) (by rw[AT9];exact hn) (by
  intro k hkk;obtain⟨x,hx,rfl⟩:=ATw.1 hkk;have:=(hk x hx).1;unfold i64;omega)
 have q4:=λZ=>AP2 0 4095 (h++Z);have hloop:=λR7 X Q=>ARS h t a d2 K ht' (λZ=>AS Z ha) (ER (K.E.map (·.1))) hSm hSr (by omega) (λx hx=>(hk x hx).2) R7 X Q;generalize ER (K.E.map (·.1))=S at*;simp at q1;simp only[AHO,AB,AA,AF,AE,qe,qd,AQ];simp;refine⟨_,_,q1 _,?_⟩;simp[AD,qc,qZ];simp[ht'];refine⟨_,_,(q2 _),?_⟩;simp;refine⟨_,_,(q3 _ _ ?_),?_⟩
 ·simp
 simp;simp at hloop;refine hloop _ _ _ ?_;simp[Uj,Ui];refine⟨_,_,(q4 _),?_⟩;simp;obtain⟨H7,hH7⟩:∃H7,H7=h++[Row.cells [.ref t 0],.cells [.v (.int .i64 0)],.cells [.own 47 1 [],.own 47 1 [],.own 5 1 []],.cells [.mref a],.cells [.own 47 1 [],.own 47 1 [],.own 5 1 []],.cells [.v (.int .i64 0)],.cells [.v (.int .i64 4095)]]:=⟨_,rfl⟩;have g5:∀Z,(H7++Z)[h.length+5]?=some (.cells [.v (.int .i64 0)]):=λZ=>by rw[hH7];simp
 have g6:∀Z,(H7++Z)[h.length+5+1]?=some (.cells [.v (.int .i64 4095)]):=λZ=>by rw[hH7];simp
 rw[←hH7];refine D8 H7.length rfl 301 [.ref (h.length+5) 0,.ref (h.length+5+1) 0] [] _ _ .ready rfl rfl (AII H7.length _ (h.length+5) (h.length+5+1) (g5 _) (g6 _)) ?_ ?_
 ·simp
 ·simp[Bo];rw[hH7];simp only[Aa,Uh];simp[AG,qf,D.one?,AO]
theorem HD (a n:Int) (ha:i64 a):0≤A8 a n:=by
 unfold A8;unfold i64 at ha;split
 ·have e1:IntKind.i64.wrap (a+1)=a+1:=AJ;have e2:IntKind.i64.wrap (0-(a+1))=0-(a+1):=AJ;rw[e1,e2];exact AWL _ (by omega)
 ·exact AWL _ (by omega)
theorem Nu (l:List Int) (hl:∀n∈l,i64 n) (i n:Int):0≤Ab l i n:=by
 unfold Ab;split
 ·omega
 ·split
  ·rename_i x hx;exact HD x n (hl x (ATq hx))
  ·omega
def If (k:Int):List Int:=((List.range 6).filter λc=>(k.fdiv (2^(min c IntKind.i64.bits))).tmod 3==1).map λ(c:Nat)=>(c:Int)
def Ng:List (Int×Int):=[(0,1),(1,1),(1,2),(3,2),(2,1),(-1,1),(5,1),(7,3)]
def Lt (l:List Int) (at_ i:Nat):Option Val:=
 let k:=Ab l ((at_+i:Nat):Int) 1048576
 if k.tmod 3=0 then (let r:=(Ng[(((IntKind.i64.wrap (k.tdiv 3)).tmod 8).toNat)]?).getD (0,1);some ⟨i,r.1,r.2⟩) else none
def Cu (l:List Int) (at_ n:Nat):List Val:=(List.range n).filterMap (Lt l at_)
def Cc (f:Nat→Th×Nat) (len:Nat):Nat→Nat→List Th×Nat
 |0,at_=>([],at_)
 |n+1,at_=>if at_ <len then ((f at_).1::(Cc f len n (f at_).2).1,(Cc f len n (f at_).2).2) else ([],at_)
def thG (l:List Int):Nat→Nat→Th×Nat
 |0,at_=>(.mk (If (Ab l at_ 1048576)) (Cu l (at_+1) 3) [],at_+5)
 |d+1,at_=>(.mk (If (Ab l at_ 1048576)) (Cu l (at_+1) 3) (Cc (thG l d) l.length (Ab l ((at_+4:Nat):Int) 4).toNat (at_+5)).1,(Cc (thG l d) l.length (Ab l ((at_+4:Nat):Int) 4).toNat (at_+5)).2)
theorem E4 (f:Nat→Th×Nat) (len:Nat):∀n at_,(Cc f len n at_).1.length≤n
 |0,at_=>by simp[Cc]
 |n+1,at_=>by
  rw[Cc];split
  ·have:=E4 f len n (f at_).2;simp;omega
  ·simp
theorem LH (f:Nat→Th×Nat) (len B:Nat) (hf:∀a,(f a).2≤a+B):∀n at_,(Cc f len n at_).2≤at_+n*B
 |0,at_=>by simp[Cc]
 |n+1,at_=>by
  rw[Cc];split
  ·have h1:=LH f len B hf n (f at_).2;have h2:=hf at_;rw[AVG];simp only;omega
  ·simp
theorem E5 (f:Nat→Th×Nat) (len:Nat) (p:Th→Prop) (hf:∀a,p (f a).1):∀n at_,∀x∈(Cc f len n at_).1,p x
 |0,at_,x,hx=>by simp[Cc]at hx
 |n+1,at_,x,hx=>by
  rw[Cc]at hx;split at hx
  ·rcases ATt.1 hx with rfl|hx
   ·exact hf at_
   ·exact E5 f len p hf n _ x hx
  ·cases hx
theorem N0 (l:List Int) (i:Int):(Ab l i 4).toNat≤3:=by
 have:=Dh l i 4 (by decide);omega
theorem V0 (l:List Int):∀d at_,(thG l d at_).2≤at_+5*4^d
 |0,at_=>by simp[thG]
 |d+1,at_=>by
  have h:=LH (thG l d) l.length _ (V0 l d) (Ab l ((at_+4:Nat):Int) 4).toNat (at_+5);have h2:=N0 l ((at_+4:Nat):Int);have h3:(Ab l ((at_+4:Nat):Int) 4).toNat*(5*4^d)≤3*(5*4^d):=AVD _ h2;have h4:1≤4^d:=Nat.one_le_pow _ _ (by decide);rw[thG,Nat.pow_succ];simp only;omega
theorem tK:∀r∈Ng,(okR r.1 r.2&&decide (r.2≤65536))=true∧(-9223372036854775808≤r.1∧r.1 <9223372036854775808)∧ -9223372036854775808≤r.2∧r.2 <9223372036854775808:=by decide
theorem V2 (j:Nat):(Ng[j]?).getD (0,1)∈Ng:=by
 cases h:Ng[j]? with
 |none=>simp[Ng]
 |some r=>exact ATq h
theorem HI (l:List Int) (a i:Nat) (hi:i≤3) (x:Val) (hx:Lt l a i=some x):x.a=i∧EQ x=true∧x.ok:=by
 unfold Lt at hx;simp only at hx;split at hx
 ·simp only[ATm]at hx;have hm:=V2 ((IntKind.i64.wrap ((Ab l ((a+i:Nat):Int) 1048576).tdiv 3)).tmod 8).toNat;generalize (Ng[((IntKind.i64.wrap ((Ab l ((a+i:Nat):Int) 1048576).tdiv 3)).tmod 8).toNat]?).getD (0,1)=r at hx hm;subst hx;obtain⟨h1,h2,h3⟩:=tK r hm;exact⟨rfl,h1,by simp only[i64];omega,h2,h3⟩
 ·cases hx
theorem So (l:List Int) (m:Int) (h1:∀x∈l,0≤x∧x <m) (h2:l.Pairwise (· <·)):JP l m=true:=by
 unfold JP;have:((List.range l.length).any (Gf l m))=false:=by
  rw[AU7];intro k hk;have hk:=AUC.1 hk;have hx:l[k]?=some l[k]:=ATo hk;have hm:=h1 _ (AUc hk);unfold Gf;simp only[List.getD,hx,AT3,decide_eq_true_eq];intro hb;rcases hb with hb|hb|⟨hb,hc⟩
  ·omega
  ·omega
  ·have hk1:k-1 <l.length:=by omega
   have:=List.pairwise_iff_getElem.1 h2 (k-1) k hk1 hk (by omega);simp only[ATo hk1,AT3]at hc;omega
 rw[this];rfl
theorem Hr (k:Int):JP (If k) 64=true∧(If k).length≤6∧∀c∈If k,0≤c∧c <6:=by
 have hb:∀c∈If k,0≤c∧c <6:=by
  intro c hc;unfold If at hc;obtain⟨n,hn,rfl⟩:=ATw.1 hc;have:=AUC.1 (AVL.1 hn).1;omega
 refine⟨So _ _ (λx hx=>by have:=hb x hx;omega) ?_,?_,hb⟩
 ·unfold If;rw[List.pairwise_map];refine List.Pairwise.imp (λh=>by omega) ((AVX (n:=6)).filter _)
 ·unfold If;rw[AT9];have:=AUi (λ(c:Nat)=>(k.fdiv (2^(min c IntKind.i64.bits))).tmod 3==1) (List.range 6);simpa using this
theorem HG (l:List Int) (a:Nat):(Cu l a 3).all EQ=true∧JP ((Cu l a 3).map Val.a) 32=true∧(Cu l a 3).length≤3∧∀x∈Cu l a 3,x.ok:=by
 have hm:∀x∈Cu l a 3,∃i,i <3∧Lt l a i=some x:=by
  intro x hx;obtain⟨i,hi,hx⟩:=List.mem_filterMap.1 hx;exact⟨i,AUC.1 hi,hx⟩
 refine⟨AT4.2 λx hx=>?_,So _ _ (λy hy=>?_) ?_,?_,λx hx=>?_⟩
 ·obtain⟨i,hi,hx⟩:=hm x hx;exact(HI l a i (by omega) x hx).2.1
 ·obtain⟨x,hx,rfl⟩:=ATw.1 hy;obtain⟨i,hi,hx⟩:=hm x hx;rw[(HI l a i (by omega) x hx).1];omega
 ·rw[List.pairwise_map];unfold Cu;rw[List.pairwise_filterMap];refine List.Pairwise.imp_of_mem ?_ (AVX (n:=3));intro i j hi hj hij x hx y hy;have hi:=AUC.1 hi;have hj:=AUC.1 hj;rw[(HI l a i (by omega) x hx).1,(HI l a j (by omega) y hy).1];omega
 ·have:=AVh (Lt l a) (List.range 3);simpa[Cu]using this
 ·obtain⟨i,hi,hx⟩:=hm x hx;exact(HI l a i (by omega) x hx).2.2
structure Th.good (t:Th):Prop where
 ok:t.ok
 fm:t.formed=true
 kd:t.kinds 6=true
theorem Jm (l:List Int):∀d at_,(thG l d at_).1.good
 |0,at_=>by
  obtain⟨c1,c2,c3⟩:=Hr (Ab l at_ 1048576);obtain⟨v1,v2,v3,v4⟩:=HG l (at_+1);rw[thG];refine⟨.mk (by omega) (by omega) (by simp) v4 (by simp),?_,?_⟩
  ·rw[Th.formed,v1,c1,v2];rfl
  ·rw[Th.kinds,Th.kindss,AVk,AT4];intro c hc;have:=c3 c hc;simp;omega
 |d+1,at_=>by
  obtain⟨c1,c2,c3⟩:=Hr (Ab l at_ 1048576);obtain⟨v1,v2,v3,v4⟩:=HG l (at_+1);have hp:=E5 (thG l d) l.length Th.good (Jm l d) (Ab l ((at_+4:Nat):Int) 4).toNat (at_+5);have hn:=E4 (thG l d) l.length (Ab l ((at_+4:Nat):Int) 4).toNat (at_+5);have h3:=N0 l ((at_+4:Nat):Int);rw[thG];refine⟨.mk (by omega) (by omega) (by omega) v4 (λp h=>(hp p h).ok),?_,?_⟩
  ·rw[Th.formed,v1,c1,v2,Fz];simp only[AUS];exact AT4.2 λp h=>(hp p h).fm
  ·rw[Th.kinds,Gx,ATn];refine⟨AT4.2 λc hc=>?_,AT4.2 λp h=>(hp p h).kd⟩;have:=c3 c hc;simp;omega
def ET:Nat→Int
 |0=>1
 |d+1=>1+3*ET d
theorem LE:∀d,0 <ET d
 |0=>by simp[ET]
 |d+1=>by have:=LE d;rw[ET];omega
theorem WQ (S lv:Int) (hS:0 <S):∀(ps:List Th),(∀p∈ps,∀lf,S≤lf→lf-S≤p.nd lv lf)→∀lf,ps.length*S≤lf→lf-ps.length*S≤Th.nds ps lv lf
 |[],_,lf,h=>by simp[Th.nds]
 |p::ps,hp,lf,h=>by
  have e:((p::ps).length:Int)*S=ps.length*S+S:=by rw[AUA,AUs,Int.add_mul];simp
  have hn:0≤(ps.length:Int)*S:=AVu (by omega) (by omega);rw[e]at h ⊢;have h1:=hp p (by simp) lf (by omega);have h2:=WQ S lv hS ps (λq hq=>hp q (by simp[hq])) (p.nd lv lf) (by omega);rw[Th.nds,if_neg (by omega)];omega
theorem Vz (l:List Int):∀(d at_:Nat) (lv lf:Int),lv+d≤8→ET d≤lf→lf-ET d≤(thG l d at_).1.nd lv lf
 |0,at_,lv,lf,h1,h2=>by
  simp only[ET]at h2 ⊢;rw[thG,Th.nd,if_neg (by omega),Th.nds];omega
 |d+1,at_,lv,lf,h1,h2=>by
  have hpos:=LE d;simp only[ET]at h2 ⊢;rw[thG,Th.nd,if_neg (by omega)];have hp:=E5 (thG l d) l.length (λp=>∀lf,ET d≤lf→lf-ET d≤p.nd (lv+1) lf) (λa lf h=>Vz l d a (lv+1) lf (by omega) h) (Ab l ((at_+4:Nat):Int) 4).toNat (at_+5);have hn:=E4 (thG l d) l.length (Ab l ((at_+4:Nat):Int) 4).toNat (at_+5);have h3:=N0 l ((at_+4:Nat):Int);generalize (Cc (thG l d) l.length (Ab l ((at_+4:Nat):Int) 4).toNat (at_+5)).1=ps at*;have h4:(ps.length:Int)*ET d≤3*ET d:=AUp (by omega) (by omega);have:=WQ (ET d) (lv+1) hpos ps hp (lf-1) (by omega);omega
theorem Lu (l:List Int) (at_:Nat):thE (thG l 2 at_).1=0:=by
 unfold thE WV;have h:=Vz l 2 at_ 1 96 (by decide) (by decide);have e:ET 2=13:=by decide
 rw[e]at h;rw[decide_eq_true (by omega),(Jm l 2 at_).fm];rfl
inductive Th.small:Th→Prop
 |mk {cs vs ps} (h1:cs.length≤2^20) (h2:vs.length≤2^20) (h3:ps.length≤2^20) (h5:∀p∈ps,Th.small p):Th.small (.mk cs vs ps)
theorem K8 (l:List Int):∀d at_,(thG l d at_).1.small
 |0,at_=>by
  obtain⟨c1,c2,c3⟩:=Hr (Ab l at_ 1048576);obtain⟨v1,v2,v3,v4⟩:=HG l (at_+1);rw[thG];exact .mk (by omega) (by omega) (by simp) (by simp)
 |d+1,at_=>by
  obtain⟨c1,c2,c3⟩:=Hr (Ab l at_ 1048576);obtain⟨v1,v2,v3,v4⟩:=HG l (at_+1);have hp:=E5 (thG l d) l.length Th.small (K8 l d) (Ab l ((at_+4:Nat):Int) 4).toNat (at_+5);have hn:=E4 (thG l d) l.length (Ab l ((at_+4:Nat):Int) 4).toNat (at_+5);have h3:=N0 l ((at_+4:Nat):Int);rw[thG];exact .mk (by omega) (by omega) (by omega) hp
def ALd:AC:=(.seq (.reg YC [1,2,3]) (.seq (.reg YB [1,2,3]) (.seq (.seq (.reg YA [2,3,30,31,32]) (.block 0 (.loop S8))) (.seq (.reg X0 [2]) .ret))))
def zP:List D:=[.own 3 1 [],.own 171 3 [],.own 58 3 []]
theorem l62 (cs:List Int) (vs:List Val) (ps:List Th) (hn:ps.length≤2^20) (ih:∀p∈ps,PX 62 [p.V] [p.V]) (R0 R1 RA RB:Row) (Q:AExit→St→Prop)
  (hQ:∀e J,AH e 2= .ref 1 0→AH e 3= .ref 5 0→Q (.exit 0) ⟨e,R0::R1::RA::RB:: .cells ((ps.flatMap λp=>p.cells)):: .cells [.sref 2 cs.length,.sref 3 vs.length,.sref 4 ps.length]::J⟩):
  awp Tryz.prog GLx (.loop S8) Q ⟨[(2,.ref 1 0),(3,.ref 5 0),(30,.v (.list (ps.map Th.V))),(31,.v (.int .i64 ps.length)),(32,.v (.int .i64 (0:Nat)))],
   R0::R1::RA::RB:: .cells (List.replicate ps.length zP).flatten:: .cells [.sref 2 cs.length,.sref 3 vs.length,.sref 4 ps.length]::[]⟩:=by
 refine Ae ps.length (λk s=>∃J,s=⟨[(2,.ref 1 0),(3,.ref 5 0),(30,.v (.list (ps.map Th.V))),(31,.v (.int .i64 ps.length)),(32,.v (.int .i64 k))],
   R0::R1::RA::RB:: .cells (((ps.take k).flatMap λp=>p.cells)++(List.replicate (ps.length-k) zP).flatten):: .cells [.sref 2 cs.length,.sref 3 vs.length,.sref 4 ps.length]::J⟩) ⟨[],by simp⟩ ?_
 rintro k s hk ⟨J,rfl⟩;simp only[S8,AB,AA,AF,AE,yf];simp;by_cases hkl:k <ps.length
 ·obtain⟨p,hp⟩:∃p,ps[k]?=some p:=⟨_,ATo hkl⟩;have q:=ih p (ATq hp);have w1:IntKind.i64.wrap ((k:Int)+1)=k+1:=AJ;have htk:ps.take (k+1)=ps.take k++[p]:=by rw[AUE,hp];rfl
  have e1:ps.length-k=(ps.length-(k+1))+1:=by omega
  have hl3:∀(l:List Th),(l.flatMap λp=>p.cells).length=3*l.length:=by
   intro l;induction l with
   |nil=>rfl
   |cons x l ih=>rw[AT8,ATr,ih,AUA];simp[Th.cells];omega
  have hA:=hl3 (ps.take k);rw[AUI,AU1 (by omega)]at hA;rw[htk,AVd,e1,AWO,List.flatten_cons];generalize ((ps.take k).flatMap λp=>p.cells)=A at*;generalize (List.replicate (ps.length-(k+1)) zP).flatten=Zs at*;obtain⟨c1,v1,p1⟩:=p;simp only[Th.V_eq,AL]at q;rw[if_pos (by omega),AD];simp only[AA,ye];simp[hp,Th.V_eq,AL,AO];simp only[Aa,yd];simp;refine⟨_,_,⟨rfl,rfl⟩,_,q,?_⟩;have hpl:∀(a b c x y z:D),AO (A++a::b::c::Zs) (k*3) [x,y,z]=A++x::y::z::Zs:=by
   intro a b c x y z;have hk3:k*3=A.length:=by omega
   unfold AO;rw[hk3];simp[List.drop_append]
  simp[hkl,zP];rw[hpl,if_pos (by omega)];simp[yc,w1,Th.cells,Th.cs,Th.vs,Th.ps,AL]
 ·have hk2:k=ps.length:=by omega
  subst hk2;rw[if_neg (by omega),AM,AUT,AVs];simp only[List.replicate_zero,List.flatten_nil,AUh];exact hQ _ J rfl rfl
theorem MA {n:Nat}:∀xs:List V,D.lts n (xs.map .v)=true
 |[]=>rfl
 |x::xs=>by simp only[ATz,D.lts,D.lt,MA xs,Bool.and_self]
theorem SP:∀l:List V,D.vs? (l.map D.v)=some l
 |[]=>rfl
 |x::l=>by
  have:=SP l;simp only[ATz,D.vs?,D.v?,this]
theorem ADt:c62=(.seq (.reg YE [1,2]) (.seq (.regA YD [1,2,3] [[],[0],[0,1],[0,1,2],[],[4],[4,5],[4,5,6],[],[8],[8,9],[8,9,10],[0,1,2,3,4,5,6,7,8,9,10,11],[],[0,1,2,3,4,5,6,7,8,9,10,11,12,13]] (.take 0 (.take 1 (.take 2 (.take 4 (.take 5 (.take 6 (.take 8 (.take 9 (.take 10 (.pick (.alt 3 (.pick (.alt 7 (.pick (.alt 11 (.take 12 (.take 13 (.take 14 .done))) (.alt 13 (.take 11 (.take 12 (.take 14 .done))) .none))) (.alt 11 (.pick (.alt 7 (.take 12 (.take 13 (.take 14 .done))) (.alt 13 (.take 7 (.take 12 (.take 14 .done))) .none))) (.alt 13 (.pick (.alt 7 (.take 11 (.take 12 (.take 14 .done))) (.alt 11 (.take 7 (.take 12 (.take 14 .done))) .none))) .none)))) (.alt 7 (.pick (.alt 3 (.pick (.alt 11 (.take 12 (.take 13 (.take 14 .done))) (.alt 13 (.take 11 (.take 12 (.take 14 .done))) .none))) (.alt 11 (.pick (.alt 3 (.take 12 (.take 13 (.take 14 .done))) (.alt 13 (.take 3 (.take 12 (.take 14 .done))) .none))) (.alt 13 (.pick (.alt 3 (.take 11 (.take 12 (.take 14 .done))) (.alt 11 (.take 3 (.take 12 (.take 14 .done))) .none))) .none)))) (.alt 11 (.pick (.alt 3 (.pick (.alt 7 (.take 12 (.take 13 (.take 14 .done))) (.alt 13 (.take 7 (.take 12 (.take 14 .done))) .none))) (.alt 7 (.pick (.alt 3 (.take 12 (.take 13 (.take 14 .done))) (.alt 13 (.take 3 (.take 12 (.take 14 .done))) .none))) (.alt 13 (.pick (.alt 3 (.take 7 (.take 12 (.take 14 .done))) (.alt 7 (.take 3 (.take 12 (.take 14 .done))) .none))) .none)))) (.alt 13 (.pick (.alt 3 (.pick (.alt 7 (.take 11 (.take 12 (.take 14 .done))) (.alt 11 (.take 7 (.take 12 (.take 14 .done))) .none))) (.alt 7 (.pick (.alt 3 (.take 11 (.take 12 (.take 14 .done))) (.alt 11 (.take 3 (.take 12 (.take 14 .done))) .none))) (.alt 11 (.pick (.alt 3 (.take 7 (.take 12 (.take 14 .done))) (.alt 7 (.take 3 (.take 12 (.take 14 .done))) .none))) .none)))) .none))))))))))))))) ALd)):=rfl
set_option maxHeartbeats 4000000 in
theorem p62 {t:Th} (ht:t.small):PX 62 [t.V] [t.V]:=by
 induction ht with
 | @mk cs vs ps n1 n2 n3 _ ih=>
 have hx:∀l:List Th,(l.flatMap λp=>p.cells)=((l.map Th.V).flatMap V.cells).map .v:=by
  intro l;induction l with
  |nil=>rfl
  |cons x l ih=>obtain⟨a,b,c⟩:=x;rw[AT8,ih,ATz,AT8,AUN,Th.V_eq];rfl
 have f0:FX 62 [.v (Th.mk cs vs ps).V] [] [.agg [.sref 2 cs.length,.sref 3 vs.length,.sref 4 ps.length]]
   [.cells [.v (AL .i64 cs),.v (.list (vs.map Val.V)),.v (.list (ps.map Th.V))],.cells [.sref 2 cs.length,.sref 3 vs.length,.sref 4 ps.length],.cells (((cs.map (V.int .i64)).flatMap V.cells).map .v),.cells (((vs.map Val.V).flatMap V.cells).map .v),.cells (ps.flatMap λp=>p.cells),.cells [.sref 2 cs.length,.sref 3 vs.length,.sref 4 ps.length]]:=by
  have hlow:∀row∈[Row.cells [.v (AL .i64 cs),.v (.list (vs.map Val.V)),.v (.list (ps.map Th.V))],.cells [.sref 2 cs.length,.sref 3 vs.length,.sref 4 ps.length],.cells (((cs.map (V.int .i64)).flatMap V.cells).map .v),.cells (((vs.map Val.V).flatMap V.cells).map .v),.cells (ps.flatMap λp=>p.cells),.cells [.sref 2 cs.length,.sref 3 vs.length,.sref 4 ps.length]],Row.low 6 row=true:=by
   rw[hx];intro row hrow;simp only[ATt,AT2,or_false]at hrow;rcases hrow with rfl|rfl|rfl|rfl|rfl|rfl
   ·rfl
   ·rfl
   ·exact MA _
   ·exact MA _
   ·exact MA _
   ·rfl
  refine As k62 rfl (by simp) hlow (by simp[D.lt,D.lts]) ?_;rw[ADt,AB,AA];simp[YE,AQ,Th.V_eq,AL];rw[AB,Bq];obtain⟨dA,eA⟩:∃dA,dA=List.replicate cs.length (D.v (.int .i64 0)):=⟨_,rfl⟩;obtain⟨dB,eB⟩:∃dB,dB=(List.replicate vs.length [D.v (.int .i64 0),.v (.int .i64 0),.v (.int .i64 0)]).flatten:=⟨_,rfl⟩;obtain⟨dC,eC⟩:∃dC,dC=(List.replicate ps.length [D.own 3 1 [],.own 171 3 [],.own 58 3 []]).flatten:=⟨_,rfl⟩;have hA:∀π,D.rens π dA=dA:=λπ=>by rw[eA,CI];simp[D.ren]
  have hB:∀π,D.rens π dB=dB:=λπ=>by rw[eB,CI];simp[D.ren]
  have hC:∀π,D.rens π dC=dC:=λπ=>by rw[eC,CI];simp[D.ren]
  obtain⟨K,hK⟩:∃K:St→Prop,K=λs=>∃s2,Ov 2 s s2∧(AH s2.e 1= .ref 0 0∧AH s2.e 2= .ref 1 0∧AH s2.e 3= .ref 5 0∧s2.h=[.cells [.v (AL .i64 cs),.v (.list (vs.map Val.V)),.v (.list (ps.map Th.V))],.cells zP,.cells dA,.cells dB,.cells dC,.cells [.sref 2 cs.length,.sref 3 vs.length,.sref 4 ps.length]]):=⟨_,rfl⟩;refine Bm _ (K:=K) ?_ ?_
  ·rintro s hs;rw[hK]at hs;obtain⟨s2,hr,f1,f2,f3,fh⟩:=hs;refine⟨s2,hr,?_⟩;have hlA:dA.length=cs.length:=by rw[eA];simp
   have hlB:dB.length=vs.length*3:=by rw[eB];simp
   have hh1:CT 1 (cs.map (V.int .i64))=true:=by cases cs<;>rfl
   have hh2:CT 3 (vs.map Val.V)=true:=by cases vs<;>rfl
   have hloop:=λR0 R1 RA RB Q=>l62 cs vs ps n3 ih R0 R1 RA RB Q;have eC':(List.replicate ps.length zP).flatten=dC:=eC.symm;rw[eC']at hloop;simp only[ALd,AB,AA,AF,YC];simp[f1,f2,f3,fh,AL,hlA,hh1];simp only[AA,YB];simp[hlB,hh2];simp only[AA,YA];simp;simp at hloop;refine hloop _ _ _ _ _ ?_;intro e J g2 g3;simp[X0,g2,g3,AO,AG,ALe,zP,D.one?]
  ·have b1:(cs.length:Int)≤16777216:=by omega
   have b2:(vs.length:Int)≤16777216:=by omega
   have b3:(ps.length:Int)≤16777216:=by omega
   simp only[YD];simp[AO,b1,b2,b3];simp only[←eA,←eB,←eC];subst hK
   and_intros
   ·refine A6 [(2,2),(3,3),(4,4),(5,5)] rfl rfl ⟨rfl,rfl,rfl,?_⟩;simp[Aq,List.range,List.range.loop,rnm,Bi,Row.ren,D.rens,D.ren,hA,hB,hC,zP,AL]
   ·refine A6 [(2,2),(3,3),(4,5),(5,4)] rfl rfl ⟨rfl,rfl,rfl,?_⟩;simp[Aq,List.range,List.range.loop,rnm,Bi,Row.ren,D.rens,D.ren,hA,hB,hC,zP,AL]
   ·refine A6 [(2,2),(3,4),(4,3),(5,5)] rfl rfl ⟨rfl,rfl,rfl,?_⟩;simp[Aq,List.range,List.range.loop,rnm,Bi,Row.ren,D.rens,D.ren,hA,hB,hC,zP,AL]
   ·refine A6 [(2,2),(3,4),(4,5),(5,3)] rfl rfl ⟨rfl,rfl,rfl,?_⟩;simp[Aq,List.range,List.range.loop,rnm,Bi,Row.ren,D.rens,D.ren,hA,hB,hC,zP,AL]
   ·refine A6 [(2,2),(3,5),(4,3),(5,4)] rfl rfl ⟨rfl,rfl,rfl,?_⟩;simp[Aq,List.range,List.range.loop,rnm,Bi,Row.ren,D.rens,D.ren,hA,hB,hC,zP,AL]
   ·refine A6 [(2,2),(3,5),(4,4),(5,3)] rfl rfl ⟨rfl,rfl,rfl,?_⟩;simp[Aq,List.range,List.range.loop,rnm,Bi,Row.ren,D.rens,D.ren,hA,hB,hC,zP,AL]
   ·refine A6 [(2,3),(3,2),(4,4),(5,5)] rfl rfl ⟨rfl,rfl,rfl,?_⟩;simp[Aq,List.range,List.range.loop,rnm,Bi,Row.ren,D.rens,D.ren,hA,hB,hC,zP,AL]
   ·refine A6 [(2,3),(3,2),(4,5),(5,4)] rfl rfl ⟨rfl,rfl,rfl,?_⟩;simp[Aq,List.range,List.range.loop,rnm,Bi,Row.ren,D.rens,D.ren,hA,hB,hC,zP,AL]
   ·refine A6 [(2,3),(3,4),(4,2),(5,5)] rfl rfl ⟨rfl,rfl,rfl,?_⟩;simp[Aq,List.range,List.range.loop,rnm,Bi,Row.ren,D.rens,D.ren,hA,hB,hC,zP,AL]
   ·refine A6 [(2,3),(3,4),(4,5),(5,2)] rfl rfl ⟨rfl,rfl,rfl,?_⟩;simp[Aq,List.range,List.range.loop,rnm,Bi,Row.ren,D.rens,D.ren,hA,hB,hC,zP,AL]
   ·refine A6 [(2,3),(3,5),(4,2),(5,4)] rfl rfl ⟨rfl,rfl,rfl,?_⟩;simp[Aq,List.range,List.range.loop,rnm,Bi,Row.ren,D.rens,D.ren,hA,hB,hC,zP,AL]
   ·refine A6 [(2,3),(3,5),(4,4),(5,2)] rfl rfl ⟨rfl,rfl,rfl,?_⟩;simp[Aq,List.range,List.range.loop,rnm,Bi,Row.ren,D.rens,D.ren,hA,hB,hC,zP,AL]
   ·refine A6 [(2,4),(3,2),(4,3),(5,5)] rfl rfl ⟨rfl,rfl,rfl,?_⟩;simp[Aq,List.range,List.range.loop,rnm,Bi,Row.ren,D.rens,D.ren,hA,hB,hC,zP,AL]
   ·refine A6 [(2,4),(3,2),(4,5),(5,3)] rfl rfl ⟨rfl,rfl,rfl,?_⟩;simp[Aq,List.range,List.range.loop,rnm,Bi,Row.ren,D.rens,D.ren,hA,hB,hC,zP,AL]
   ·refine A6 [(2,4),(3,3),(4,2),(5,5)] rfl rfl ⟨rfl,rfl,rfl,?_⟩;simp[Aq,List.range,List.range.loop,rnm,Bi,Row.ren,D.rens,D.ren,hA,hB,hC,zP,AL]
   ·refine A6 [(2,4),(3,3),(4,5),(5,2)] rfl rfl ⟨rfl,rfl,rfl,?_⟩;simp[Aq,List.range,List.range.loop,rnm,Bi,Row.ren,D.rens,D.ren,hA,hB,hC,zP,AL]
   ·refine A6 [(2,4),(3,5),(4,2),(5,3)] rfl rfl ⟨rfl,rfl,rfl,?_⟩;simp[Aq,List.range,List.range.loop,rnm,Bi,Row.ren,D.rens,D.ren,hA,hB,hC,zP,AL]
   ·refine A6 [(2,4),(3,5),(4,3),(5,2)] rfl rfl ⟨rfl,rfl,rfl,?_⟩;simp[Aq,List.range,List.range.loop,rnm,Bi,Row.ren,D.rens,D.ren,hA,hB,hC,zP,AL]
   ·refine A6 [(2,5),(3,2),(4,3),(5,4)] rfl rfl ⟨rfl,rfl,rfl,?_⟩;simp[Aq,List.range,List.range.loop,rnm,Bi,Row.ren,D.rens,D.ren,hA,hB,hC,zP,AL]
   ·refine A6 [(2,5),(3,2),(4,4),(5,3)] rfl rfl ⟨rfl,rfl,rfl,?_⟩;simp[Aq,List.range,List.range.loop,rnm,Bi,Row.ren,D.rens,D.ren,hA,hB,hC,zP,AL]
   ·refine A6 [(2,5),(3,3),(4,2),(5,4)] rfl rfl ⟨rfl,rfl,rfl,?_⟩;simp[Aq,List.range,List.range.loop,rnm,Bi,Row.ren,D.rens,D.ren,hA,hB,hC,zP,AL]
   ·refine A6 [(2,5),(3,3),(4,4),(5,2)] rfl rfl ⟨rfl,rfl,rfl,?_⟩;simp[Aq,List.range,List.range.loop,rnm,Bi,Row.ren,D.rens,D.ren,hA,hB,hC,zP,AL]
   ·refine A6 [(2,5),(3,4),(4,2),(5,3)] rfl rfl ⟨rfl,rfl,rfl,?_⟩;simp[Aq,List.range,List.range.loop,rnm,Bi,Row.ren,D.rens,D.ren,hA,hB,hC,zP,AL]
   ·refine A6 [(2,5),(3,4),(4,3),(5,2)] rfl rfl ⟨rfl,rfl,rfl,?_⟩;simp[Aq,List.range,List.range.loop,rnm,Bi,Row.ren,D.rens,D.ren,hA,hB,hC,zP,AL]
 have tk:∀(xs:List V) (sz:Nat),(∀x∈xs,x.cells.length=sz)→D.vs? (((xs.flatMap V.cells).map D.v).take (xs.length*sz))=some (xs.flatMap V.cells):=by
  intro xs sz hx;have hl:(xs.flatMap V.cells).length=xs.length*sz:=by
   induction xs with
   |nil=>simp
   |cons x xs ih=>rw[AT8,ATr,ih (λy hy=>hx y (by simp[hy])),hx x (by simp),AUA,AVG,Nat.add_comm]
  rw[AUG (by rw[AT9,hl];exact ATs _)];exact SP _
 rw[hx]at f0;have s1:∀x∈cs.map (V.int .i64),x.cells.length=1:=by
  intro x hx;obtain⟨c,_,rfl⟩:=ATw.1 hx;rfl
 have s2:∀x∈vs.map Val.V,x.cells.length=3:=by
  intro x hx;obtain⟨c,_,rfl⟩:=ATw.1 hx;rfl
 have s3:∀x∈ps.map Th.V,x.cells.length=3:=by
  intro x hx;obtain⟨⟨c1,c2,c3⟩,_,rfl⟩:=ATw.1 hx;rfl
 have t1:=tk _ 1 s1;have t2:=tk _ 3 s2;have t3:=tk _ 3 s3;rw[AT9]at t1 t2 t3;have g1:=f0.frz (i:=0) (xs:=cs.map (V.int .i64)) rfl rfl (by simp) s1 t1;have g2:=g1.frz (i:=1) (xs:=vs.map Val.V) rfl rfl (by simp) s2 t2;have g3:=g2.frz (i:=2) (xs:=ps.map Th.V) rfl rfl (by simp) s3 t3;have g4:=FSp.aggV (xs:=[AL .i64 cs,.list (vs.map Val.V),.list (ps.map Th.V)]) g3;have g5:=FSp.trim (h':=[]) g4 (ATs _) (by simp) (by simp[D.lt]);rw[Th.V_eq]at g5 ⊢;exact Gu (args:=[_]) (rets:=[_]) g5
theorem p88 (kind day:Int) (hk:kind≠0) (t:Th) (rs:List Rgt) (cl:List (Int×Int)):PX 88 [DS kind day t rs cl] [.int .i64 0,.int .i64 4095]:=by
 refine AK k88 rfl ?_;simp only[c88,AB,AA,AE,wq,wp,AY,DS,BS];simp[AL,hk,AD,AA,wo,AG,ADi]
def Wm (kind day:Int) (t:Th) (rs:List Rgt):Row:=
 .cells [.v (.int .i64 kind),.v (.int .i64 0),.v (.int .i64 0),.v (.int .i64 day),.v (AL .i64 t.cs),.v (.list (t.vs.map Val.V)),.v (.list (t.ps.map Th.V)),.own 74 8 (rs.map Rgt.V),.own 76 2 [],.own 3 1 [],.own 47 1 [],.own 47 1 [],.own 5 1 []]
theorem l61 (h:List Row) (kind day:Int) (t:Th) (g:Nat) (ps:List V) (rs:List Rgt) (hn:rs.length≤2^20) (hps:ps=rs.map λr=>V.agg [.int .i64 r.file,AL .u8 (Bx r)])
  (VE:∀r∈rs,PX 113 [AL .u8 (Bx r)] [r.V,.int .i64 0]) (R4 R9:Row) (Q:AExit→St→Prop)
  (hQ:∀e J,Lows J→AH e 0= .ref g 0→AH e 3= .ref h.length 0→AH e 4= .ref (h.length+1) 0→AH e 9= .ref (h.length+2) 0→Q (.exit 0) ⟨e,h++(Wm kind day t rs::R4::R9::J)⟩):
  awp Tryz.prog GLx (.loop YI) Q ⟨[(0,.ref g 0),(3,.ref h.length 0),(4,.ref (h.length+1) 0),(9,.ref (h.length+2) 0),(35,.v (.list ps)),(36,.v (.int .i64 rs.length)),(37,.v (.int .i64 (0:Nat)))],h++(Wm kind day t []::R4::R9::[])⟩:=by
 subst hps;refine Ae rs.length (λk s=>∃J,Lows J∧s=⟨[(0,.ref g 0),(3,.ref h.length 0),(4,.ref (h.length+1) 0),(9,.ref (h.length+2) 0),(35,.v (.list (rs.map λr=>V.agg [.int .i64 r.file,AL .u8 (Bx r)]))),(36,.v (.int .i64 rs.length)),(37,.v (.int .i64 k))],
   h++(Wm kind day t (rs.take k)::R4::R9::J)⟩) ⟨[],Lows.nil,by simp⟩ ?_
 rintro k s hk ⟨J,hJ,rfl⟩;simp only[YI,AB,AA,AF,AE,yj];simp;by_cases hkl:k <rs.length
 ·obtain⟨r,hr⟩:∃r,rs[k]?=some r:=⟨_,ATo hkl⟩;have w1:IntKind.i64.wrap ((k:Int)+1)=k+1:=AJ;have htk2:rs.take (k+1)=rs.take k++[r]:=by rw[AUE,hr];rfl
  have q1:=(VE r (ATq hr)).fsp;have hl1:∀n,Row.low n (.cells [.v (.int .i64 r.file),.v (AL .u8 (Bx r))])=true:=λn=>by simp[Row.low,D.lts,D.lt]
  have hl2:∀n,Row.low n (.cells (r.cs.map .v))=true:=λn=>by simp only[Row.low];exact Sf _
  have hJ2:=(hJ.app hl1).app hl2;rw[htk2];have hm:min k rs.length=k:=by omega
  have hroom:Ah (k+1) 144=true:=by simp[Ah];omega
  obtain⟨file,state,force,claims,dates,bad,owners,lics⟩:=r;generalize hE:Bx ⟨file,state,force,claims,dates,bad,owners,lics⟩=E at*;obtain⟨cs,vs,pa⟩:=t;simp only[Rgt.V,Rgt.cs,Wm,Th.cs,Th.vs,Th.ps,AL]at*;simp at q1;rw[if_pos (by omega),AD];simp only[AA,yi];simp[hr,AO,hE,AL];simp only[AA,yh];simp;refine⟨_,_,q1 _,?_⟩;simp[AO];simp only[AA,yg];simp[hm,hroom,YH,w1,hkl];simp at hJ2;exact⟨hJ2,by simp[Rgt.V,Rgt.cs,AL]⟩
 ·have hk2:k=rs.length:=by omega
  subst hk2;rw[if_neg (by omega),AM,AUT];exact hQ _ _ hJ rfl rfl rfl rfl
theorem p61 (h:List Row) (hl:Low h) (kind day:Int) (hk:kind≠0) (t:Th) (g tr qm x:Nat) (hg:h[g]?=some (.cells [.ref x 0,.mref qm,.ref tr 0])) (rs:List Rgt) (hn:rs.length≤2^20) (cl:List (Int×Int)) (d4:D) (hd4:d4= .v (.list (cl.map BX))∨d4= .own 76 2 (cl.map BX))
  (tU:∀Z,Lows Z→FX 137 [.ref tr 0,.v (.int .i64 0),.v (.int .i64 4095)] (h++Z) [.own 193 2 (rs.map λr=>V.agg [.int .i64 r.file,AL .u8 (Bx r)]),.v (.agg [.list [],.list [],.list []]),.v (.int .i64 0)] (h++Z))
  (VE:∀r∈rs,PX 113 [AL .u8 (Bx r)] [r.V,.int .i64 0])
  (q90:∀Z,Lows Z→FX 90 [.ref x 0,.v (DS kind day t rs [])] (h++Z) [d4,.own 3 1 [],.v (.int .i64 0)] (h++Z)):
  FX 61 [.ref g 0,.agg [.v (.int .i64 kind),.v (.int .i64 0),.v (.int .i64 0),.v (.int .i64 day),.v (AL .i64 t.cs),.v (.list (t.vs.map Val.V)),.v (.list (t.ps.map Th.V)),.nil 74 8,.nil 76 2,.nil 3 1,.nil 47 1,.nil 47 1,.nil 5 1]] h
   [.v (DS kind day t rs cl),.v (.int .i64 0)] h:=by
 refine As k61 rfl (ATs _) hl (by simp[D.lt]) ?_;have q88:=(p88 kind day hk t [] []).fsp;have hg':=λZ=>AS Z hg;have hloop:=λR4 R9 Q=>l61 h kind day t g _ rs hn rfl VE R4 R9 Q;obtain⟨cs,vs,pa⟩:=t;simp only[DS,BS,Wm,Th.cs,Th.vs,Th.ps,AL]at*;simp at q88;simp only[c61,AB,AA,AF,AE,yp,AQ];simp;simp only[AA,yo];simp;refine⟨_,_,q88 _,?_⟩;simp;simp only[AA,yn];simp[hg'];have hq:=tU [.cells [.v (.int .i64 kind),.v (.int .i64 0),.v (.int .i64 0),.v (.int .i64 day),.v (.list (cs.map (.int .i64))),.v (.list (vs.map Val.V)),.v (.list (pa.map Th.V)),.own 74 8 [],.own 76 2 [],.own 3 1 [],.own 47 1 [],.own 47 1 [],.own 5 1 []],
   .cells [.v (.int .i64 0),.v (.int .i64 0),.v (.int .i64 0),.v (.int .i64 0),.own 3 1 [],.own 171 3 [],.own 58 3 [],.own 74 8 [],.own 76 2 [],.own 3 1 [],.own 47 1 [],.own 47 1 [],.own 5 1 []]] (by
  intro row hrow n;simp only[ATt,AT2,or_false]at hrow;rcases hrow with rfl|rfl<;>rfl)
 refine⟨_,_,hq,?_⟩;simp[AO];simp[ym,AD,yl];simp at hloop;refine hloop _ _ _ ?_;intro e J hJ g0 g3 g4 g9;simp only[AA,YG];simp[g0,g3,g4,g9,AO];simp only[Aa,YF];simp[hg'];have hq9:=q90 (.cells [.v (.int .i64 kind),.v (.int .i64 0),.v (.int .i64 0),.v (.int .i64 day),.v (.list (cs.map (.int .i64))),.v (.list (vs.map Val.V)),.v (.list (pa.map Th.V)),.own 74 8 (rs.map Rgt.V),.own 76 2 [],.own 3 1 [],.v (.list []),.v (.list []),.v (.list [])]::
   .cells [.v (.int .i64 0),.v (.int .i64 0),.v (.int .i64 0),.v (.int .i64 0),.own 3 1 [],.own 171 3 [],.own 58 3 [],.own 74 8 [],.own 76 2 [],.own 3 1 [],.own 47 1 [],.own 47 1 [],.own 5 1 []]:: .cells [.v (.list []),.v (.list []),.v (.list [])]::J) (by
  intro row hrow n;simp only[ATt]at hrow;rcases hrow with rfl|rfl|rfl|hrow
  ·rfl
  ·rfl
  ·rfl
  ·exact hJ row hrow n)
 simp at hq9;rcases hd4 with rfl|rfl
 ·refine⟨_,_,hq9,?_⟩;simp[AO,Pi,AD,AA,Ph,AG,uK,D.one?]
 ·refine⟨_,_,hq9,?_⟩;simp[AO,Pi,AD,AA,Ph,AG,uK,D.one?]
def PK (kind day:Int) (t:Th):D:= .agg [.v (.int .i64 kind),.v (.int .i64 0),.v (.int .i64 0),.v (.int .i64 day),.v (AL .i64 t.cs),.v (.list (t.vs.map Val.V)),.v (.list (t.ps.map Th.V)),.nil 74 8,.nil 76 2,.nil 3 1,.nil 47 1,.nil 47 1,.nil 5 1]
theorem p22 (h:List Row) (hl:Low h) (g:Nat) (t:Th) (hs:t.small) (rs:List Rgt) (cl:List (Int×Int))
  (q61:∀Z,Lows Z→FX 61 [.ref g 0,PK 1 0 t] (h++Z) [.v (DS 1 0 t rs cl),.v (.int .i64 0)] (h++Z)):
  FX 22 [.ref g 0,.v t.V] h [.v (DS 1 0 t rs cl),.v (.int .i64 0)] h:=by
 refine As k22 rfl (ATs _) hl (by simp[D.lt]) ?_;have q62:=(p62 hs).fsp;have hth:t.V= .agg [AL .i64 t.cs,.list (t.vs.map Val.V),.list (t.ps.map Th.V)]:=by obtain⟨a,b,c⟩:=t;exact Th.V_eq ..
 rw[hth]at q62 ⊢;have hq:=q61 [.cells [.v (AL .i64 t.cs),.v (.list (t.vs.map Val.V)),.v (.list (t.ps.map Th.V))],.cells [.v (.int .i64 0),.v (.int .i64 0),.v (.int .i64 0),.v (.int .i64 0),.own 3 1 [],.own 171 3 [],.own 58 3 [],.own 74 8 [],.own 76 2 [],.own 3 1 [],.own 47 1 [],.own 47 1 [],.own 5 1 []]] (by
  intro row hrow n;simp only[ATt,AT2,or_false]at hrow;rcases hrow with rfl|rfl<;>rfl)
 simp only[PK,DS,BS,AL]at*;simp at q62 hq;simp only[c22,AB,AA,AA6,AQ];simp;simp only[AA,AA5];simp;refine⟨_,_,q62 _,?_⟩;simp[AO];refine⟨_,_,hq,?_⟩;simp[AO,AG,ANb,D.one?]
theorem p23 (h:List Row) (hl:Low h) (g:Nat) (t:Th) (hs:t.small) (day:Int) (hd:0≤day∧day≤131072) (rs:List Rgt) (cl cl2:List (Int×Int))
  (q61:∀Z,Lows Z→FX 61 [.ref g 0,PK 1 0 t] (h++Z) [.v (DS 1 0 t rs cl),.v (.int .i64 0)] (h++Z))
  (q61':∀Z,Lows Z→FX 61 [.ref g 0,PK 3 day t] (h++Z) [.v (DS 3 day t rs cl2),.v (.int .i64 0)] (h++Z)):
  FX 23 [.ref g 0,.v t.V,.v (.int .i64 day)] h [.v (DS 3 day t rs cl2),.v (.int .i64 0)] h:=by
 refine As k23 rfl (ATs _) hl (by simp[D.lt]) ?_;have q62:=(p62 hs).fsp;have hlow1:Lows [.cells [.v (AL .i64 t.cs),.v (.list (t.vs.map Val.V)),.v (.list (t.ps.map Th.V))],.cells [.v (.int .i64 0),.v (.int .i64 0),.v (.int .i64 0),.v (.int .i64 0),.own 3 1 [],.own 171 3 [],.own 58 3 [],.own 74 8 [],.own 76 2 [],.own 3 1 [],.own 47 1 [],.own 47 1 [],.own 5 1 []]]:=by
  intro row hrow n;simp only[ATt,AT2,or_false]at hrow;rcases hrow with rfl|rfl<;>rfl
 have hl2:Low (h++[.cells [.v (AL .i64 t.cs),.v (.list (t.vs.map Val.V)),.v (.list (t.ps.map Th.V))],.cells [.v (.int .i64 0),.v (.int .i64 0),.v (.int .i64 0),.v (.int .i64 0),.own 3 1 [],.own 171 3 [],.own 58 3 [],.own 74 8 [],.own 76 2 [],.own 3 1 [],.own 47 1 [],.own 47 1 [],.own 5 1 []]]):=hl.lows hlow1;have q22:=p22 _ hl2 g t hs rs cl (λZ hZ=>by
  have:=q61 ([.cells [.v (AL .i64 t.cs),.v (.list (t.vs.map Val.V)),.v (.list (t.ps.map Th.V))],.cells [.v (.int .i64 0),.v (.int .i64 0),.v (.int .i64 0),.v (.int .i64 0),.own 3 1 [],.own 171 3 [],.own 58 3 [],.own 74 8 [],.own 76 2 [],.own 3 1 [],.own 47 1 [],.own 47 1 [],.own 5 1 []]]++Z) (λrow hrow n=>by
   rcases AT7.1 hrow with hrow|hrow
   ·exact hlow1 row hrow n
   ·exact hZ row hrow n)
  rw[←AT1]at this;exact this)
 have hle:Lows [.cells ((BS 1 0 t rs cl).map .v)]:=λrow hrow n=>by
  rw[ATy.1 hrow];exact D2 n _ _ _ _ _
 have hq:=q61' ([.cells [.v (AL .i64 t.cs),.v (.list (t.vs.map Val.V)),.v (.list (t.ps.map Th.V))],.cells [.v (.int .i64 0),.v (.int .i64 0),.v (.int .i64 0),.v (.int .i64 0),.own 3 1 [],.own 171 3 [],.own 58 3 [],.own 74 8 [],.own 76 2 [],.own 3 1 [],.own 47 1 [],.own 47 1 [],.own 5 1 []]]++[.cells ((BS 1 0 t rs cl).map .v)]) (λrow hrow n=>by
   rcases AT7.1 hrow with hrow|hrow
   ·exact hlow1 row hrow n
   ·exact hle row hrow n)
 have hth:t.V= .agg [AL .i64 t.cs,.list (t.vs.map Val.V),.list (t.ps.map Th.V)]:=by obtain⟨a,b,c⟩:=t;exact Th.V_eq ..
 rw[hth]at q62 q22 ⊢;have hd0:¬day <0:=by omega
 have hd1:¬131072 <day:=by omega
 simp only[PK,DS,BS,AL]at*;simp at q62 q22 hq;simp only[c23,AB,AA,AE,AA3,AQ];simp;simp only[AA,AA2];simp;refine⟨_,_,q22,?_⟩;simp[AO,AA1,AD];simp only[AA,AA0];simp[hd0,hd1,AD];simp only[AA,AAz];simp;refine⟨_,_,q62 _,?_⟩;simp[AO];refine⟨_,_,hq,?_⟩;simp[AO,AG,ANX,D.one?]
theorem Sk (l:List Rgt):l.Pairwise (λa b=>a.file≠b.file)→(kmL l).E=l.map L0:=by
 have key:∀n,∀l:List Rgt,l.length=n→l.Pairwise (λa b=>a.file≠b.file)→(kmL l).E=l.map L0:=by
  intro n;induction n with
  |zero=>intro l h _;rw[AUQ h];rfl
  |succ n ih=>
   intro l h hp;have hne:l≠[]:=λe=>by rw[e]at h;cases h
   obtain⟨r,hr⟩:∃r,l=l.dropLast++[r]:=⟨l.getLast hne,(List.dropLast_concat_getLast hne).symm⟩;rw[hr]at hp ⊢;have hl:l.dropLast.length=n:=by rw[List.length_dropLast];omega
   rw[AUm]at hp;have hE:=ih l.dropLast hl hp.1;rw[KA];have hnone:(l.dropLast.map L0).findIdx? (λx=>x.1==r.file)=none:=by
    rw[IF,AU7];intro q hq;have:=hp.2.2 q hq r (by simp);simpa using this
   unfold KM.set;rw[hE,hnone];simp[L0]
 exact key l.length l rfl
theorem Es {l:List Rgt} (hp:l.Pairwise (λa b=>a.file≠b.file)) {r:Rgt} (hr:r∈l):l.find? (λq=>q.file==r.file)=some r:=by
 induction l with
 |nil=>cases hr
 |cons x l ih=>
  rw[List.pairwise_cons]at hp;rw[List.find?_cons];rcases ATt.1 hr with rfl|hr
  ·simp
  ·have:=hp.1 r hr;rw[show (x.file==r.file)=false by simpa using this];exact ih hp.2 hr
theorem FD {l:List Rgt} (hp:l.Pairwise (λa b=>a.file≠b.file)) {r:Rgt} (hr:r∈l):I7 l r.file=r:=by
 unfold I7;rw[Es hp hr];rfl
def Dk (l:List Rgt):List Rgt:=(ER (l.map Rgt.file)).map (I7 l)
theorem IK {l:List Rgt} (hp:l.Pairwise (λa b=>a.file≠b.file)):(Dk l).Perm l:=by
 unfold Dk;have h1:(ER (l.map Rgt.file)).Perm (l.map Rgt.file):=AWZ _ _;have h2:=h1.map (I7 l);rw[AVN]at h2;have e:l.map (I7 l ∘ Rgt.file)=l:=by
  conv=>rhs;rw[←List.map_id l]
  exact AWW λr hr=>FD hp hr
 rw[e]at h2;exact h2
theorem Lw {l:List Rgt} (hp:l.Pairwise (λa b=>a.file≠b.file)):(Dk l).Pairwise (λa b=>a.file≠b.file):=
 (IK hp).symm.pairwise hp (λh=>Ne.symm h)
theorem Gp {α:Type} (f:α→Bool) {l:List α} {k:Nat} {x:α} (h:l[k]?=some x):(l.take (k+1)).any f=((l.take k).any f||f x):=by
 rw[AUE,h,List.any_append];simp
theorem l4d (H:List Row) (t13 t15 t17 t19:Nat) (first:Int) (own:List Rgt) (k:Nat) (r:Rgt) (hr:own[k]?=some r) (hrd:r.dates.length≤2^30) (A:List (Int×Int)) (i:Nat) (c:Int×Int) (hc:A[i]?=some c)
  (d0 d1 d2 d3 d4 d5 d6 d7 d9 d10 d11 d12:D) (h15:H[t15]?=some (.cells [d0,d1,d2,d3,d4,d5,d6,d7,.v (.list (A.map BX)),d9,d10,d11,d12])) (n la:Int) (v26:V) (j:Nat) (w is:Bool) (J:List Row) (hJ:Lows J) (Q:AExit→St→Prop)
  (hQ:∀J',Lows J'→∀q:Int,Q (.exit 6) ⟨[(9,.ref 0 0),(10,.v (.list (own.map Rgt.V))),(13,.ref t13 0),(14,.v (.int .i64 first)),(15,.ref t15 0),(17,.ref t17 0),(19,.ref t19 0),(21,.v (.int .i64 n)),(22,.v (.int .i64 la)),(23,.v (.int .i64 i)),
   (24,.v (.bool (w||(is&&K1 r c.2 j first)))),(25,.v (.int .i64 k)),(26,.v v26),(28,.v (.int .i64 j)),(29,.v (.bool is)),(30,.v (.int .i64 0)),(31,.v (.int .i64 q)),(154,.v (.bool false))],H++J'⟩):
  awp Tryz.prog GLx (.loop AD5) Q ⟨[(9,.ref 0 0),(10,.v (.list (own.map Rgt.V))),(13,.ref t13 0),(14,.v (.int .i64 first)),(15,.ref t15 0),(17,.ref t17 0),(19,.ref t19 0),(21,.v (.int .i64 n)),(22,.v (.int .i64 la)),(23,.v (.int .i64 i)),
   (24,.v (.bool w)),(25,.v (.int .i64 k)),(26,.v v26),(28,.v (.int .i64 j)),(29,.v (.bool is)),(30,.v (.int .i64 0)),(31,.v (.int .i64 (0:Nat)))],H++J⟩:=by
 unfold K1 at hQ;refine Ae r.dates.length (λq s=>∃J',Lows J'∧s=⟨[(9,.ref 0 0),(10,.v (.list (own.map Rgt.V))),(13,.ref t13 0),(14,.v (.int .i64 first)),(15,.ref t15 0),(17,.ref t17 0),(19,.ref t19 0),(21,.v (.int .i64 n)),(22,.v (.int .i64 la)),(23,.v (.int .i64 i)),
   (24,.v (.bool (w||(is&&(r.dates.take q).any λd=>((d.cl==c.2)&&(d.ix==(j:Int)))&&decide (d.day <first))))),(25,.v (.int .i64 k)),(26,.v v26),(28,.v (.int .i64 j)),(29,.v (.bool is)),(30,.v (.int .i64 0)),(31,.v (.int .i64 q))],H++J'⟩) ⟨J,hJ,by simp⟩ ?_
 rintro q s hq ⟨J',hJ',rfl⟩;have h15':=λZ=>AS Z h15;have hrv:(own.map Rgt.V)[k]?=some r.V:=by simp[hr]
 have hcv:(A.map BX)[i]?=some (BX c):=by simp[hc]
 simp only[AD5,AB,AA,AF,AE,zd];simp[hr,Rgt.V,Rgt.cs];by_cases hql:q <r.dates.length
 ·obtain⟨d,hd⟩:∃d,r.dates[q]?=some d:=⟨_,ATo hql⟩;have w1:IntKind.i64.wrap ((q:Int)+1)=q+1:=AJ;have hld:∀m,Row.low m (.cells [.v (.int .i64 d.cl),.v (.int .i64 d.ix),.v (.int .i64 d.day),.v (.int .i64 d.file)])=true:=λm=>by simp[Row.low,D.lts,D.lt]
  have hat:=Gp (λd:Dat=>((d.cl==c.2)&&(d.ix==(j:Int)))&&decide (d.day <first)) hd;rw[hat];generalize ((r.dates.take q).any λd=>((d.cl==c.2)&&(d.ix==(j:Int)))&&decide (d.day <first))=T at*;rw[if_pos (by omega),AD];simp only[AA,zc];simp[hr,Rgt.V,Rgt.cs,hd,Dat.V,AO];simp only[Aa,za];cases w with
  |true=>
   simp[AA,Lf,w1,hql];exact hJ'.app hld
  |false=>
   cases is with
   |false=>
    simp[AA,Lf,w1,hql];exact hJ'.app hld
   |true=>
    cases T with
    |true=>
     simp[AA,Lf,w1,hql];exact hJ'.app hld
    |false=>
     cases h1:(d.cl==c.2)&&(d.ix==(j:Int))with
     |false=>
      have h1':¬(d.cl=c.2∧d.ix=(j:Int)):=by
       rintro⟨a,b⟩;simp[a,b]at h1
      simp[h15',hc,BX,V.eqL,V.eq1,AO,h1',h1,AA,Lf,w1,hql];exact hJ'.app hld
     |true=>
      have h1':d.cl=c.2∧d.ix=(j:Int):=by simpa using h1
      simp[h15',hc,BX,V.eqL,V.eq1,AO,h1',h1,AA,Lf,w1,hql];exact hJ'.app hld
 ·have hq2:q=r.dates.length:=by omega
  subst hq2;rw[if_neg (by omega),AM];have:=hQ J' hJ' r.dates.length;rw[AUT];change Q (.exit 6) _;simp only[Nat.lt_irrefl,decide_false];exact this
theorem l4a {ps:List V} {bs:List Bool} (hps:ps.length≤64) (hbs:bs.length=4096) (H:List Row) (hl:Low H) (hx:H[0]?=some (CN ps bs)) (t:Th) (ht:t.ok) (hte:thE t=0) (htk:t.kinds ps.length=true)
  (t13 t15 t17 t19:Nat) (h13:H[t13]?=some (.cells t.cells)) (first:Int) (own:List Rgt) (k:Nat) (r:Rgt) (hr:own[k]?=some r) (hrd:r.dates.length≤2^30) (A:List (Int×Int)) (i:Nat) (c:Int×Int) (hc:A[i]?=some c)
  (d0 d1 d2 d3 d4 d5 d6 d7 d9 d10 d11 d12:D) (h15:H[t15]?=some (.cells [d0,d1,d2,d3,d4,d5,d6,d7,.v (.list (A.map BX)),d9,d10,d11,d12])) (n la:Int) (al:List F) (has:Ks ps.length al) (w:Bool) (J:List Row) (hJ:Lows J) (Q:AExit→St→Prop)
  (hQ:∀J',Lows J'→∀e,AH e 9= .ref 0 0→AH e 10= .v (.list (own.map Rgt.V))→AH e 13= .ref t13 0→AH e 14= .v (.int .i64 first)→AH e 15= .ref t15 0→AH e 17= .ref t17 0→AH e 19= .ref t19 0→AH e 21= .v (.int .i64 n)→AH e 22= .v (.int .i64 la)→
   AH e 23= .v (.int .i64 i)→AH e 24= .v (.bool (w||EP (isT ps.length bs) t r c.2 first 0 al))→AH e 25= .v (.int .i64 k)→Q (.exit 4) ⟨e,H++J'⟩):
  awp Tryz.prog GLx (.loop AD6) Q ⟨[(9,.ref 0 0),(10,.v (.list (own.map Rgt.V))),(13,.ref t13 0),(14,.v (.int .i64 first)),(15,.ref t15 0),(17,.ref t17 0),(19,.ref t19 0),(21,.v (.int .i64 n)),(22,.v (.int .i64 la)),(23,.v (.int .i64 i)),
   (24,.v (.bool w)),(25,.v (.int .i64 k)),(26,.v (.list (al.map F.V))),(28,.v (.int .i64 (0:Nat)))],H++J⟩:=by
 refine Ae al.length (λj s=>∃J',Lows J'∧s=⟨[(9,.ref 0 0),(10,.v (.list (own.map Rgt.V))),(13,.ref t13 0),(14,.v (.int .i64 first)),(15,.ref t15 0),(17,.ref t17 0),(19,.ref t19 0),(21,.v (.int .i64 n)),(22,.v (.int .i64 la)),(23,.v (.int .i64 i)),
   (24,.v (.bool (w||EP (isT ps.length bs) t r c.2 first 0 (al.take j)))),(25,.v (.int .i64 k)),(26,.v (.list (al.map F.V))),(28,.v (.int .i64 j))],H++J'⟩) ⟨J,hJ,by simp[EP]⟩ ?_
 rintro j s hj ⟨J',hJ',rfl⟩;have h13':=λZ=>AS Z h13;simp only[AD6,AB,AA,AF,AE,zh];simp;by_cases hjl:j <al.length
 ·obtain⟨a,ha⟩:∃a,al[j]?=some a:=⟨_,ATo hjl⟩;have ham:=ATq ha;have hlen:=has.1;have w1:IntKind.i64.wrap ((j:Int)+1)=j+1:=AJ;have htk2:al.take (j+1)=al.take j++[a]:=by rw[AUE,ha];rfl
  have hbt:=Kn (isT ps.length bs) t r c.2 first a (al.take j) 0;rw[←htk2,AUI,AU1 (by omega),AUv]at hbt;rw[hbt];have q1:=p25 hps hbs a (has.2 a ham).1 t ht (H++J') 0 (AS _ hx) (hl.lows hJ');rw[AKI has ham hte htk]at q1;simp only[decide_true,AUS]at q1;have hloop:=λQ hQ=>l4d H t13 t15 t17 t19 first own k r hr hrd A i c hc d0 d1 d2 d3 d4 d5 d6 d7 d9 d10 d11 d12 h15 n la (.list (al.map F.V)) j (w||EP (isT ps.length bs) t r c.2 first 0 (al.take j)) (a.hold (isT ps.length bs) t) J' hJ' Q hQ
  generalize EP (isT ps.length bs) t r c.2 first 0 (al.take j)=T at*;generalize a.hold (isT ps.length bs) t=B at*;generalize K1 r c.2 j first=DB at*;obtain⟨fo,fn,fi,fk⟩:=a;obtain⟨cs,vs,pa⟩:=t;simp only[F.V_eq,Th.cells,Th.cs,Th.vs,Th.ps,Th.V_eq,AL]at*;simp at q1 h13' hloop;rw[if_pos (by omega),AD];simp only[Aa,zf];simp[ha,F.V_eq,h13'];refine⟨_,_,q1,?_⟩;simp[ze];refine hloop _ ?_;intro J2 hJ2 q;simp[AA,zg,w1,hjl];exact⟨hJ2,by simp[Bool.or_assoc]⟩
 ·have hj2:j=al.length:=by omega
  subst hj2;rw[if_neg (by omega),AM,AUT];exact hQ J' hJ' _ rfl rfl rfl rfl rfl rfl rfl rfl rfl rfl rfl rfl
def Iw (I:Int→Int→Bool) (t:Th) (own:List Rgt) (first:Int) (c:Int×Int):Bool:=own.any λr=>r.file==c.1&&Is I t r c.2 first
theorem l4o {ps:List V} {bs:List Bool} (hps:ps.length≤64) (hbs:bs.length=4096) (H:List Row) (hl:Low H) (hx:H[0]?=some (CN ps bs)) (t:Th) (ht:t.ok) (hte:thE t=0) (htk:t.kinds ps.length=true)
  (t13 t15 t17 t19:Nat) (h13:H[t13]?=some (.cells t.cells)) (first:Int) (own:List Rgt) (hon:own.length≤2^20) (hrd:∀r∈own,r.dates.length≤2^30) (A:List (Int×Int)) (i:Nat) (c:Int×Int) (hc:A[i]?=some c)
  (has:∀r∈own,r.file=c.1→Ks ps.length (CM r.claims c.2)) (q24:∀r∈own,r.file=c.1→PX 24 [.list (r.claims.map Clm.V),.int .i64 c.2] [.list ((CM r.claims c.2).map F.V),.int .i64 0])
  (d0 d1 d2 d3 d4 d5 d6 d7 d9 d10 d11 d12:D) (h15:H[t15]?=some (.cells [d0,d1,d2,d3,d4,d5,d6,d7,.v (.list (A.map BX)),d9,d10,d11,d12])) (n la:Int) (J:List Row) (hJ:Lows J) (Q:AExit→St→Prop)
  (hQ:∀J',Lows J'→∀e,AH e 9= .ref 0 0→AH e 10= .v (.list (own.map Rgt.V))→AH e 13= .ref t13 0→AH e 14= .v (.int .i64 first)→AH e 15= .ref t15 0→AH e 17= .ref t17 0→AH e 19= .ref t19 0→AH e 21= .v (.int .i64 n)→AH e 22= .v (.int .i64 la)→
   AH e 23= .v (.int .i64 i)→AH e 24= .v (.bool (Iw (isT ps.length bs) t own first c))→Q (.exit 2) ⟨e,H++J'⟩):
  awp Tryz.prog GLx (.loop uM) Q ⟨[(9,.ref 0 0),(10,.v (.list (own.map Rgt.V))),(13,.ref t13 0),(14,.v (.int .i64 first)),(15,.ref t15 0),(17,.ref t17 0),(19,.ref t19 0),(21,.v (.int .i64 n)),(22,.v (.int .i64 la)),(23,.v (.int .i64 i)),
   (24,.v (.bool false)),(25,.v (.int .i64 (0:Nat)))],H++J⟩:=by
 refine Ae own.length (λk s=>∃J',Lows J'∧s.h=H++J'∧AH s.e 9= .ref 0 0∧AH s.e 10= .v (.list (own.map Rgt.V))∧AH s.e 13= .ref t13 0∧AH s.e 14= .v (.int .i64 first)∧AH s.e 15= .ref t15 0∧AH s.e 17= .ref t17 0∧AH s.e 19= .ref t19 0∧AH s.e 21= .v (.int .i64 n)∧AH s.e 22= .v (.int .i64 la)∧
   AH s.e 23= .v (.int .i64 i)∧AH s.e 24= .v (.bool ((own.take k).any λr=>r.file==c.1&&Is (isT ps.length bs) t r c.2 first))∧AH s.e 25= .v (.int .i64 k)) ⟨J,hJ,rfl,rfl,rfl,rfl,rfl,rfl,rfl,rfl,rfl,rfl,rfl,rfl,rfl⟩ ?_
 rintro k ⟨se,sh⟩ hk ⟨J',hJ',rfl,f9,f10,f13,f14,f15,f17,f19,f21,f22,f23,f24,f25⟩;simp only at f9 f10 f13 f14 f15 f17 f19 f21 f22 f23 f24 f25;have h15':=λZ=>AS Z h15;simp only[uM,AB,AA,AF,AE,zm];simp[f9,f10,f13,f14,f15,f17,f19,f21,f22,f23,f24,f25];by_cases hkl:k <own.length
 ·obtain⟨r,hr⟩:∃r,own[k]?=some r:=⟨_,ATo hkl⟩;have hrm:=ATq hr;have w1:IntKind.i64.wrap ((k:Int)+1)=k+1:=AJ;have hat:=Gp (λr:Rgt=>r.file==c.1&&Is (isT ps.length bs) t r c.2 first) hr;rw[hat];generalize ((own.take k).any λr=>r.file==c.1&&Is (isT ps.length bs) t r c.2 first)=T at*;rw[if_pos (by omega),AD];simp only[Aa,zl];simp[hr,Rgt.V,Rgt.cs,h15',hc,BX];by_cases hfc:r.file=c.1
  ·have hloop:=l4a hps hbs H hl hx t ht hte htk t13 t15 t17 t19 h13 first own k r hr (hrd r hrm) A i c hc d0 d1 d2 d3 d4 d5 d6 d7 d9 d10 d11 d12 h15 n la (CM r.claims c.2) (has r hrm hfc) T J' hJ';have q:=q24 r hrm hfc;have hbr:Is (isT ps.length bs) t r c.2 first=EP (isT ps.length bs) t r c.2 first 0 (CM r.claims c.2):=rfl;rw[←hbr]at hloop;generalize Is (isT ps.length bs) t r c.2 first=B at*;generalize CM r.claims c.2=al at*;simp at hloop;simp[hfc,AD];simp only[Aa,zk];simp[hr,Rgt.V,Rgt.cs,h15',hc,BX];refine⟨_,_,⟨rfl,rfl⟩,_,q,?_⟩;simp[zj,AD,AA,zi];refine hloop _ ?_;intro J2 hJ2 e g9 g10 g13 g14 g15 g17 g19 g21 g22 g23 g24 g25;simp[AA,ZB,g9,g10,g13,g14,g15,g17,g19,g21,g22,g23,g24,g25,w1,hkl];exact hJ2
  ·simp[hfc,AM];simp[AA,ZB,w1,hkl];exact⟨J',hJ',rfl,λh=>absurd h hfc⟩
 ·have hk2:k=own.length:=by omega
  subst hk2;rw[if_neg (by omega),AM];rw[AUT]at f24 ⊢;refine hQ J' hJ' _ ?_ ?_ ?_ ?_ ?_ ?_ ?_ ?_ ?_ ?_ ?_<;>simp[f9,f10,f13,f14,f15,f17,f19,f21,f22,f23,f24,f25,Iw]
theorem VY {r:Rgt} {i j a b:Int} (hab:a≤b) (h:K1 r i j a=true):K1 r i j b=true:=by
 unfold K1 at h ⊢;rw[AVz]at h ⊢;obtain⟨d,hd,h⟩:=h;refine⟨d,hd,?_⟩;simp only[ATn,decide_eq_true_eq]at h ⊢;exact⟨h.1,by omega⟩
theorem Lj {I:Int→Int→Bool} {t:Th} {r:Rgt} {i a b:Int} (hab:a≤b):∀(l:List F) (k:Nat),EP I t r i a k l=true→EP I t r i b k l=true
 |[],k,h=>by simp[EP]at h
 |x::l,k,h=>by
  simp only[EP,AUw,ATn]at h ⊢;rcases h with ⟨h1,h2⟩|h
  ·exact .inl ⟨h1,VY hab h2⟩
  ·exact .inr (Lj hab l (k+1) h)
theorem Vo {I:Int→Int→Bool} {t:Th} {r:Rgt} {i a b:Int} (hab:a≤b) (h:Is I t r i a=true):Is I t r i b=true:=Lj hab _ _ h
theorem Vu {I:Int→Int→Bool} {t:Th} {own:List Rgt} (hp:own.Pairwise λa b=>a.file≠b.file) {r:Rgt} (hr:r∈own) (i first:Int):Iw I t own first (r.file,i)=Is I t r i first:=by
 unfold Iw;induction own with
 |nil=>cases hr
 |cons x l ih=>
  rw[List.pairwise_cons]at hp;rw[List.any_cons];rcases ATt.1 hr with rfl|hr
  ·have hn:(l.any λq=>q.file==r.file&&Is I t q i first)=false:=by
    rw[AU7];intro q hq;have:=hp.1 q hq;simp[Ne.symm this]
   simp only at hn ⊢;rw[hn];simp
  ·have:=hp.1 r hr;simp only;rw[show (x.file==r.file)=false by simpa using this,AVY,Bool.false_or];exact ih hp.2 hr
theorem GG {I:Int→Int→Bool} {t:Th} {rs:List Rgt} {c:Int×Int} (h:c∈BZ I t rs):∃r∈rs,r.file=c.1∧0≤c.2∧c.2 <r.claims.length:=by
 unfold BZ at h;obtain⟨r,hr,h⟩:=AUb.1 h;unfold Dq at h;obtain⟨i,hi,rfl⟩:=ATw.1 h;have:=N5 (AVL.1 hi).1;exact⟨r,hr,rfl,this.1,this.2⟩
theorem JL (I:Int→Int→Bool) (t:Th) (n:Nat):∀rs:List Rgt,(∀r∈rs,r.claims.length≤n)→(BZ I t rs).length≤n*rs.length
 |[],_=>by simp[BZ]
 |y::l,hy=>by
  have h1:=JL I t n l λz hz=>hy z (by simp[hz]);have h2:=hy y (by simp);have h3:=IW y;have h4:(Dq I t y).length≤(Fv y).length:=by
   unfold Dq;rw[AT9];exact AUi _ _
  unfold BZ at h1 ⊢;rw[AT8,ATr,AUA,AVi];omega
def V7:AT:=match Ip with| .seq _ (.seq _ (.seq (.block _ (.regA _ _ _ t)) _))=>t|_=> .done
def XH:List (List Nat):=match Ip with| .seq _ (.seq _ (.seq (.block _ (.regA _ _ c _)) _))=>c|_=>[]
theorem Vm:Ip= .seq (.reg R6 [1,2,4,5,6,33,34,35]) (.seq (.cond (.t 35 false) .skip (.exit 0)) (.seq (.block 1 (.regA GY [1,2,4,5,6,33,34] XH V7)) (.reg NR [1,2,4,5,6,33,34]))):=rfl
theorem U6:V7.chk GY XH (List.range 16)=true:=by kernel_rfl
def J7:List (Option Nat):=[some 36,some 37,some 38,some 39,some 40,some 41,some 42,some 43,some 44,some 45,some 46,some 47,some 48,some 49,some 50,none]
def Co:List (Option Nat):=[none,some 13,none,none,none,none,none,none,none,none,none,none,none,some 15,none,none]
def Ej:List Nat:=[1,2,4,5,6,33,34]
theorem Dc:okN J7 Ej=true:=by kernel_rfl
def Vv (x:Dat) (ds:List V) (j:Nat):D:=
 match j with
 |0|14=> .ref 4 4
 |1=> .own 88 4 ds
 |2|4|7|9=> .ref 2 0
 |3=> .v (.int .i64 x.cl)
 |5=> .v (.int .i64 x.ix)
 |6=> .agg [.v (.int .i64 x.cl),.v (.int .i64 x.ix)]
 |8=> .v (.int .i64 x.day)
 |10=> .v (.int .i64 x.file)
 |11=> .agg [.v (.int .i64 x.cl),.v (.int .i64 x.ix),.v (.int .i64 x.day),.v (.int .i64 x.file)]
 |12=> .own 88 4 [x.V]
 |13=> .own 88 4 (ds++[x.V])
 |_=> .any
def Bl (d:Nat→Bool):Nat:=if d 10 then 4 else if d 8 then 3 else if d 5 then 2 else if d 3 then 1 else 0
def CX (x:Dat) (rest:List Int):Nat→List Int
 |0=>Ag x.cl++(Ag x.ix++(Ag x.day++(Ag x.file++rest)))
 |1=>Ag x.ix++(Ag x.day++(Ag x.file++rest))
 |2=>Ag x.day++(Ag x.file++rest)
 |3=>Ag x.file++rest
 |_=>rest
def Bp (x:Dat) (ds:List V) (d:Nat→Bool):D:=if d 15 then .own 88 4 (ds++[x.V]) else if d 1 then .v (.list ds) else .own 88 4 ds
def Am (C0 C1:Row) (f st fo cl bad ow li:D) (x:Dat) (rest:List Int) (ds:List V) (d:Nat→Bool):List Row:=
 [C0,C1,rdr (CX x rest (Bl d)),.cells [.ref 2 0],.cells [f,st,fo,cl,Bp x ds d,bad,ow,li]]
def Li (n k:Int) (j:Nat):D:=
 match j with
 |1=> .ref 0 0
 |2=> .ref 1 0
 |4=> .ref 3 0
 |5=> .func 204 [.ref 3 0,.ref 0 0]
 |6=> .ref 4 0
 |33=> .v (.int .i64 n)
 |34=> .v (.int .i64 k)
 |_=> .any
theorem AJS (C0 C1:Row) (f st fo cl bad ow li:D) (x:Dat) (hx:x.ok) (rest:List Int) (ds:List V) (hds:ds.length≤2^30) (n k:Int) {K:St→Prop}
  (hK:∀e,(∀k'∈Ej,AH e k'=Li n k k')→K ⟨e,Am C0 C1 f st fo cl bad ow li x rest ds (λ_=>true)⟩) (se:Env) (hse:∀k'∈Ej,AH se k'=Li n k k'):
  V7.ok Tryz.prog GLx GY K ⟨se,Am C0 C1 f st fo cl bad ow li x rest ds (λj=>decide (16≤j))⟩:=by
 refine IE (λd s=>EnvD J7 Co Ej (Vv x ds) (Li n k) d s.e∧s.h=Am C0 C1 f st fo cl bad ow li x rest ds d) U6 ?_ ?_ ?_
 ·rintro d i ⟨e,h⟩ hi hdi hdep hup ⟨hE,hh⟩;simp only at hE hh;subst hh;have b4:AH e 4= .ref 3 0:=hE.2 4 (by simp[Ej]);have b6:AH e 6= .ref 4 0:=hE.2 6 (by simp[Ej]);have ld:∀(i k':Nat),(i=2∧k'=38∨i=4∧k'=40∨i=7∧k'=43∨i=9∧k'=45)→d i=false→GY.getD i default=⟨none,.p k' (.load (.t 4 false) 1 false)⟩→∃s1,BC Tryz.prog GLx (GY.getD i default) ⟨e,Am C0 C1 f st fo cl bad ow li x rest ds d⟩ s1∧EnvD J7 Co Ej (Vv x ds) (Li n k) (did d i) s1.e∧s1.h=Am C0 C1 f st fo cl bad ow li x rest ds (did d i):=by
   intro i k' hik hdi hx;refine⟨⟨(k',.ref 2 0)::e,_⟩,BA hx (by simp[PI.val,Opd.ev,b4,Am,D.part,D.copy]),hE.push Dc i k' ?_ ?_,?_⟩
   ·rcases hik with ⟨rfl,rfl⟩|⟨rfl,rfl⟩|⟨rfl,rfl⟩|⟨rfl,rfl⟩<;>rfl
   ·rcases hik with ⟨rfl,rfl⟩|⟨rfl,rfl⟩|⟨rfl,rfl⟩|⟨rfl,rfl⟩<;>rfl
   ·rcases hik with ⟨rfl,rfl⟩|⟨rfl,rfl⟩|⟨rfl,rfl⟩|⟨rfl,rfl⟩<;>simp[Am,Bl,Bp,did]
  match i,hi with
  |0,_=>
   exact⟨_,BA (v:= .ref 4 4) rfl (by simp[PI.val,Opd.ev,b6]),hE.push Dc 0 36 rfl rfl,by simp[Am,Bl,Bp,did]⟩
  |1,_=>
   have v0:AH e 36= .ref 4 4:=hE.1 0 36 rfl (hdep 0 (by decide)) (by intro c hc;simp[Co]at hc);have d15:d 15=false:=hup 15 (by decide) (by decide);refine⟨_,CB (s1:=⟨(37,.own 88 4 ds)::e,Am C0 C1 f st fo cl bad ow li x rest ds (did d 1)⟩) rfl ?_,hE.push Dc 1 37 rfl rfl,rfl⟩;simp[AI.step,Opd.ev,v0,Am,Bp,d15,hdi,did,Bl]
  |2,_=>exact ld 2 38 (by decide) hdi rfl
  |4,_=>exact ld 4 40 (by decide) hdi rfl
  |7,_=>exact ld 7 43 (by decide) hdi rfl
  |9,_=>exact ld 9 45 (by decide) hdi rfl
  |3,_=>
   have v2:AH e 38= .ref 2 0:=hE.1 2 38 rfl (hdep 2 (by decide)) (by intro c hc;simp[Co]at hc);have d5:d 5=false:=hup 5 (by decide) (by decide);have d8:d 8=false:=hup 8 (by decide) (by decide);have d10:d 10=false:=hup 10 (by decide) (by decide);have hF:=p45 x.cl hx.1 (Am C0 C1 f st fo cl bad ow li x rest ds d) 2 (Ag x.ix++(Ag x.day++(Ag x.file++rest))) (by simp[Am,CX,Bl,hdi,d5,d8,d10]);exact⟨_,CD (k:=39) (r:= .v (.int .i64 x.cl)) rfl (by simpa[Ar,D.arg,Opd.ev,v2]using hF),hE.push Dc 3 39 rfl rfl,by simp[Am,CX,Bl,Bp,did,hdi,d5,d8,d10]⟩
  |5,_=>
   have v4:AH e 40= .ref 2 0:=hE.1 4 40 rfl (hdep 4 (by decide)) (by intro c hc;simp[Co]at hc);have d8:d 8=false:=hup 8 (by decide) (by decide);have d10:d 10=false:=hup 10 (by decide) (by decide);have d3:d 3=true:=hdep 3 (by decide);have hF:=p45 x.ix hx.2.1 (Am C0 C1 f st fo cl bad ow li x rest ds d) 2 (Ag x.day++(Ag x.file++rest)) (by simp[Am,CX,Bl,hdi,d8,d10,d3]);exact⟨_,CD (k:=41) (r:= .v (.int .i64 x.ix)) rfl (by simpa[Ar,D.arg,Opd.ev,v4]using hF),hE.push Dc 5 41 rfl rfl,by simp[Am,CX,Bl,Bp,did,hdi,d8,d10,d3]⟩
  |8,_=>
   have v7:AH e 43= .ref 2 0:=hE.1 7 43 rfl (hdep 7 (by decide)) (by intro c hc;simp[Co]at hc);have d10:d 10=false:=hup 10 (by decide) (by decide);have d3:d 3=true:=hdep 3 (by decide);have d5:d 5=true:=hdep 5 (by decide);have hF:=p45 x.day hx.2.2.1 (Am C0 C1 f st fo cl bad ow li x rest ds d) 2 (Ag x.file++rest) (by simp[Am,CX,Bl,hdi,d10,d3,d5]);exact⟨_,CD (k:=44) (r:= .v (.int .i64 x.day)) rfl (by simpa[Ar,D.arg,Opd.ev,v7]using hF),hE.push Dc 8 44 rfl rfl,by simp[Am,CX,Bl,Bp,did,hdi,d10,d3,d5]⟩
  |10,_=>
   have v9:AH e 45= .ref 2 0:=hE.1 9 45 rfl (hdep 9 (by decide)) (by intro c hc;simp[Co]at hc);have d3:d 3=true:=hdep 3 (by decide);have d5:d 5=true:=hdep 5 (by decide);have d8:d 8=true:=hdep 8 (by decide);have hF:=p45 x.file hx.2.2.2 (Am C0 C1 f st fo cl bad ow li x rest ds d) 2 (rest) (by simp[Am,CX,Bl,hdi,d3,d5,d8]);exact⟨_,CD (k:=46) (r:= .v (.int .i64 x.file)) rfl (by simpa[Ar,D.arg,Opd.ev,v9]using hF),hE.push Dc 10 46 rfl rfl,by simp[Am,CX,Bl,Bp,did,hdi,d3,d5,d8]⟩
  |6,_=>
   have v3:AH e 39= .v (.int .i64 x.cl):=hE.1 3 39 rfl (hdep 3 (by decide)) (by intro c hc;simp[Co]at hc);have v5:AH e 41= .v (.int .i64 x.ix):=hE.1 5 41 rfl (hdep 5 (by decide)) (by intro c hc;simp[Co]at hc);exact⟨_,BA (v:= .agg [.v (.int .i64 x.cl),.v (.int .i64 x.ix)]) rfl (by simp[PI.val,EI,Opd.ev,v3,v5,D.cells?,D.copy,AO]),hE.push Dc 6 42 rfl rfl,by simp[Am,Bl,Bp,did]⟩
  |11,_=>
   have v6:AH e 42= .agg [.v (.int .i64 x.cl),.v (.int .i64 x.ix)]:=hE.1 6 42 rfl (hdep 6 (by decide)) (by intro c hc;simp[Co]at hc);have v8:AH e 44= .v (.int .i64 x.day):=hE.1 8 44 rfl (hdep 8 (by decide)) (by intro c hc;simp[Co]at hc);have v10:AH e 46= .v (.int .i64 x.file):=hE.1 10 46 rfl (hdep 10 (by decide)) (by intro c hc;simp[Co]at hc);exact⟨_,BA (v:= .agg [.v (.int .i64 x.cl),.v (.int .i64 x.ix),.v (.int .i64 x.day),.v (.int .i64 x.file)]) rfl (by simp[PI.val,EI,Opd.ev,v6,v8,v10,D.cells?,D.copy,AO]),hE.push Dc 11 47 rfl rfl,by simp[Am,Bl,Bp,did]⟩
  |12,_=>
   have v11:AH e 47= .agg [.v (.int .i64 x.cl),.v (.int .i64 x.ix),.v (.int .i64 x.day),.v (.int .i64 x.file)]:=hE.1 11 47 rfl (hdep 11 (by decide)) (by intro c hc;simp[Co]at hc);refine⟨_,CB (s1:=⟨(48,.own 88 4 [x.V])::e,Am C0 C1 f st fo cl bad ow li x rest ds d⟩) rfl ?_,hE.push Dc 12 48 rfl rfl,?_⟩
   ·simp[AI.step,Gr,D.toV,Opd.ev,v11,Dat.V,D.vs?,D.v?,D.copy,V.cells]
   ·simp[Am,Bl,Bp,did]
  |13,_=>
   have v1:AH e 37= .own 88 4 ds:=hE.1 1 37 rfl (hdep 1 (by decide)) (by intro c hc;simp[Co]at hc;subst hc;exact hdi);have v12:AH e 48= .own 88 4 [x.V]:=hE.1 12 48 rfl (hdep 12 (by decide)) (by intro c hc;simp[Co]at hc);have hroom:Ah (ds.length+1) 32=true:=by simp[Ah];omega
   refine⟨_,CB (s1:=⟨(49,.own 88 4 (ds++[x.V]))::(37,.any)::e,Am C0 C1 f st fo cl bad ow li x rest ds d⟩) rfl ?_,hE.pushC Dc 13 49 1 37 rfl rfl rfl rfl,?_⟩
   ·simp[AI.step,Opd.ev,Opd.clear,v1,v12,EE,D.toV,D.copy,Dat.V,V.cells,hroom,D.v?]
   ·simp[Am,Bl,Bp,did]
  |14,_=>
   exact⟨_,BA (v:= .ref 4 4) rfl (by simp[PI.val,Opd.ev,b6]),hE.push Dc 14 50 rfl rfl,by simp[Am,Bl,Bp,did]⟩
  |15,_=>
   have v13:AH e 49= .own 88 4 (ds++[x.V]):=hE.1 13 49 rfl (hdep 13 (by decide)) (by intro c hc;simp[Co]at hc;subst hc;exact hdi);have v14:AH e 50= .ref 4 4:=hE.1 14 50 rfl (hdep 14 (by decide)) (by intro c hc;simp[Co]at hc);refine⟨_,CB (s1:=⟨(49,.any)::e,Am C0 C1 f st fo cl bad ow li x rest ds (did d 15)⟩) rfl ?_,hE.last Dc 15 13 49 rfl rfl rfl,rfl⟩;simp[AI.step,Opd.ev,v13,v14,Am,Bp,did,Bl,D.copy]
  |i+16,hi=>omega
 ·rintro d ⟨e,h⟩ hall ⟨hE,hh⟩;simp only at hE hh;subst hh;have e1:Am C0 C1 f st fo cl bad ow li x rest ds d=Am C0 C1 f st fo cl bad ow li x rest ds (λ_=>true):=by
   simp[Am,Bl,Bp,hall 10 (by decide),hall 15 (by decide)]
  rw[e1];exact hK e hE.2
 ·refine⟨⟨λj k' hj hd=>?_,hse⟩,rfl⟩;simp only[decide_eq_true_eq]at hd;have:J7[j]?=none:=AUO (by simpa[J7]using hd);rw[this]at hj;cases hj
def V6:AT:=match Io with| .seq _ (.seq _ (.seq (.block _ (.regA _ _ _ t)) _))=>t|_=> .done
def XG:List (List Nat):=match Io with| .seq _ (.seq _ (.seq (.block _ (.regA _ _ c _)) _))=>c|_=>[]
theorem Vl:Io= .seq (.reg NO [1,2,4,5,6,56,57,58]) (.seq (.cond (.t 58 false) .skip (.exit 2)) (.seq (.block 3 (.regA Jg [1,2,4,5,6,56,57] XG V6)) (.reg NN [1,2,4,5,6,56,57]))):=rfl
theorem U5:V6.chk Jg XG (List.range 14)=true:=by kernel_rfl
def L4:List (Option Nat):=[some 59,some 60,some 61,some 62,some 63,some 64,some 65,some 66,some 67,some 68,some 69,some 70,some 71,none]
def DO:List (Option Nat):=[none,some 11,none,none,none,none,none,none,none,none,none,some 13,none,none]
def FT:List Nat:=[1,2,4,5,6,56,57]
theorem DK:okN L4 FT=true:=by kernel_rfl
def ACL (x:Own) (ds:List V) (j:Nat):D:=
 match j with
 |0=> .ref 4 6
 |1=> .own 246 3 ds
 |2=> .ref 2 0
 |3=> .v (.int .i64 x.party)
 |4=> .ref 2 0
 |5=> .v (.int .i64 x.num)
 |6=> .ref 2 0
 |7=> .v (.int .i64 x.den)
 |8=> .agg [.v (.int .i64 x.num),.v (.int .i64 x.den)]
 |9=> .agg [.v (.int .i64 x.party),.v (.int .i64 x.num),.v (.int .i64 x.den)]
 |10=> .own 246 3 [x.V]
 |11=> .own 246 3 (ds++[x.V])
 |12=> .ref 4 6
 |_=> .any
def Bk (d:Nat→Bool):Nat:=if d 7 then 3 else (if d 5 then 2 else (if d 3 then 1 else (0)))
def Cw (x:Own) (rest:List Int):Nat→List Int
 |0=>Ag x.party++(Ag x.num++(Ag x.den++rest))
 |1=>Ag x.num++(Ag x.den++rest)
 |2=>Ag x.den++rest
 |_=>rest
def Bj (x:Own) (ds:List V) (d:Nat→Bool):D:=if d 13 then .own 246 3 (ds++[x.V]) else if d 1 then .v (.list ds) else .own 246 3 ds
def Ap (C0 C1:Row) (f st fo cl y1 y2 y3:D) (x:Own) (rest:List Int) (ds:List V) (d:Nat→Bool):List Row:=
 [C0,C1,rdr (Cw x rest (Bk d)),.cells [.ref 2 0],.cells [f,st,fo,cl,y1,y2,Bj x ds d,y3]]
def Kl (n k:Int) (j:Nat):D:=
 match j with
 |1=> .ref 0 0
 |2=> .ref 1 0
 |4=> .ref 3 0
 |5=> .func 204 [.ref 3 0,.ref 0 0]
 |6=> .ref 4 0
 |56=> .v (.int .i64 n)
 |57=> .v (.int .i64 k)
 |_=> .any
theorem AJR (C0 C1:Row) (f st fo cl y1 y2 y3:D) (x:Own) (hx:x.ok) (rest:List Int) (ds:List V) (hds:ds.length≤2^30) (n k:Int) {K:St→Prop}
  (hK:∀e,(∀k'∈FT,AH e k'=Kl n k k')→K ⟨e,Ap C0 C1 f st fo cl y1 y2 y3 x rest ds (λ_=>true)⟩) (se:Env) (hse:∀k'∈FT,AH se k'=Kl n k k'):
  V6.ok Tryz.prog GLx Jg K ⟨se,Ap C0 C1 f st fo cl y1 y2 y3 x rest ds (λj=>decide (14≤j))⟩:=by
 refine IE (λd s=>EnvD L4 DO FT (ACL x ds) (Kl n k) d s.e∧s.h=Ap C0 C1 f st fo cl y1 y2 y3 x rest ds d) U5 ?_ ?_ ?_
 ·rintro d i ⟨e,h⟩ hi hdi hdep hup ⟨hE,hh⟩;simp only at hE hh;subst hh;have b4:AH e 4= .ref 3 0:=hE.2 4 (by simp[FT]);have b6:AH e 6= .ref 4 0:=hE.2 6 (by simp[FT])
  match i,hi with
  |0,_=>
   exact⟨_,BA (v:= .ref 4 6) rfl (by simp[PI.val,Opd.ev,b6]),hE.push DK 0 59 rfl rfl,by simp[Ap,Bk,Bj,did]⟩
  |1,_=>
   have v0:AH e 59= .ref 4 6:=hE.1 0 59 rfl (hdep 0 (by decide)) (by intro c hc;simp[DO]at hc);have d13:d 13=false:=hup 13 (by decide) (by decide);refine⟨_,CB (s1:=⟨(60,.own 246 3 ds)::e,Ap C0 C1 f st fo cl y1 y2 y3 x rest ds (did d 1)⟩) rfl ?_,hE.push DK 1 60 rfl rfl,rfl⟩;simp[AI.step,Opd.ev,v0,Ap,Bk,Bj,did,d13,hdi]
  |2,_=>
   exact⟨_,BA (v:= .ref 2 0) rfl (by simp[PI.val,Opd.ev,b4,Ap,D.part,D.copy]),hE.push DK 2 61 rfl rfl,by simp[Ap,Bk,Bj,did]⟩
  |3,_=>
   have v2:AH e 61= .ref 2 0:=hE.1 2 61 rfl (hdep 2 (by decide)) (by intro c hc;simp[DO]at hc);have d5:d 5=false:=hup 5 (by decide) (by decide);have d7:d 7=false:=hup 7 (by decide) (by decide);have hF:=p45 x.party hx.1 (Ap C0 C1 f st fo cl y1 y2 y3 x rest ds d) 2 (Ag x.num++(Ag x.den++rest)) (by simp[Ap,Cw,Bk,hdi,d5,d7]);exact⟨_,CD (k:=62) (r:= .v (.int .i64 x.party)) rfl (by simpa[Ar,D.arg,Opd.ev,v2]using hF),hE.push DK 3 62 rfl rfl,by simp[Cw,Ap,Bk,Bj,did,hdi,d5,d7]⟩
  |4,_=>
   exact⟨_,BA (v:= .ref 2 0) rfl (by simp[PI.val,Opd.ev,b4,Ap,D.part,D.copy]),hE.push DK 4 63 rfl rfl,by simp[Ap,Bk,Bj,did]⟩
  |5,_=>
   have v4:AH e 63= .ref 2 0:=hE.1 4 63 rfl (hdep 4 (by decide)) (by intro c hc;simp[DO]at hc);have d7:d 7=false:=hup 7 (by decide) (by decide);have d3:d 3=true:=hdep 3 (by decide);have hF:=p45 x.num hx.2.1 (Ap C0 C1 f st fo cl y1 y2 y3 x rest ds d) 2 (Ag x.den++rest) (by simp[Ap,Cw,Bk,hdi,d7,d3]);exact⟨_,CD (k:=64) (r:= .v (.int .i64 x.num)) rfl (by simpa[Ar,D.arg,Opd.ev,v4]using hF),hE.push DK 5 64 rfl rfl,by simp[Cw,Ap,Bk,Bj,did,hdi,d7,d3]⟩
  |6,_=>
   exact⟨_,BA (v:= .ref 2 0) rfl (by simp[PI.val,Opd.ev,b4,Ap,D.part,D.copy]),hE.push DK 6 65 rfl rfl,by simp[Ap,Bk,Bj,did]⟩
  |7,_=>
   have v6:AH e 65= .ref 2 0:=hE.1 6 65 rfl (hdep 6 (by decide)) (by intro c hc;simp[DO]at hc);have d3:d 3=true:=hdep 3 (by decide);have d5:d 5=true:=hdep 5 (by decide);have hF:=p45 x.den hx.2.2 (Ap C0 C1 f st fo cl y1 y2 y3 x rest ds d) 2 (rest) (by simp[Ap,Cw,Bk,hdi,d3,d5]);exact⟨_,CD (k:=66) (r:= .v (.int .i64 x.den)) rfl (by simpa[Ar,D.arg,Opd.ev,v6]using hF),hE.push DK 7 66 rfl rfl,by simp[Cw,Ap,Bk,Bj,did,hdi,d3,d5]⟩
  |8,_=>
   have v5:AH e 64= .v (.int .i64 x.num):=hE.1 5 64 rfl (hdep 5 (by decide)) (by intro c hc;simp[DO]at hc);have v7:AH e 66= .v (.int .i64 x.den):=hE.1 7 66 rfl (hdep 7 (by decide)) (by intro c hc;simp[DO]at hc);exact⟨_,BA (v:= .agg [.v (.int .i64 x.num),.v (.int .i64 x.den)]) rfl (by simp[PI.val,EI,Opd.ev,v5,v7,D.cells?,D.copy,AO]),hE.push DK 8 67 rfl rfl,by simp[Ap,Bk,Bj,did]⟩
  |9,_=>
   have v3:AH e 62= .v (.int .i64 x.party):=hE.1 3 62 rfl (hdep 3 (by decide)) (by intro c hc;simp[DO]at hc);have v8:AH e 67= .agg [.v (.int .i64 x.num),.v (.int .i64 x.den)]:=hE.1 8 67 rfl (hdep 8 (by decide)) (by intro c hc;simp[DO]at hc);exact⟨_,BA (v:= .agg [.v (.int .i64 x.party),.v (.int .i64 x.num),.v (.int .i64 x.den)]) rfl (by simp[PI.val,EI,Opd.ev,v3,v8,D.cells?,D.copy,AO]),hE.push DK 9 68 rfl rfl,by simp[Ap,Bk,Bj,did]⟩
  |10,_=>
   have v9:AH e 68= .agg [.v (.int .i64 x.party),.v (.int .i64 x.num),.v (.int .i64 x.den)]:=hE.1 9 68 rfl (hdep 9 (by decide)) (by intro c hc;simp[DO]at hc);refine⟨_,CB (s1:=⟨(69,.own 246 3 [x.V])::e,Ap C0 C1 f st fo cl y1 y2 y3 x rest ds d⟩) rfl ?_,hE.push DK 10 69 rfl rfl,?_⟩
   ·simp[AI.step,Gr,D.toV,Opd.ev,v9,Own.V,D.vs?,D.v?,D.copy,V.cells]
   ·simp[Ap,Bk,Bj,did]
  |11,_=>
   have v1:AH e 60= .own 246 3 ds:=hE.1 1 60 rfl (hdep 1 (by decide)) (by intro c hc;simp[DO]at hc;subst hc;exact hdi);have v10:AH e 69= .own 246 3 [x.V]:=hE.1 10 69 rfl (hdep 10 (by decide)) (by intro c hc;simp[DO]at hc);have hroom:Ah (ds.length+1) 24=true:=by simp[Ah];omega
   refine⟨_,CB (s1:=⟨(70,.own 246 3 (ds++[x.V]))::(60,.any)::e,Ap C0 C1 f st fo cl y1 y2 y3 x rest ds d⟩) rfl ?_,hE.pushC DK 11 70 1 60 rfl rfl rfl rfl,?_⟩
   ·simp[AI.step,Opd.ev,Opd.clear,v1,v10,EE,D.toV,D.copy,Own.V,V.cells,hroom,D.v?]
   ·simp[Ap,Bk,Bj,did]
  |12,_=>
   exact⟨_,BA (v:= .ref 4 6) rfl (by simp[PI.val,Opd.ev,b6]),hE.push DK 12 71 rfl rfl,by simp[Ap,Bk,Bj,did]⟩
  |13,_=>
   have v11:AH e 70= .own 246 3 (ds++[x.V]):=hE.1 11 70 rfl (hdep 11 (by decide)) (by intro c hc;simp[DO]at hc;subst hc;exact hdi);have v12:AH e 71= .ref 4 6:=hE.1 12 71 rfl (hdep 12 (by decide)) (by intro c hc;simp[DO]at hc);refine⟨_,CB (s1:=⟨(70,.any)::e,Ap C0 C1 f st fo cl y1 y2 y3 x rest ds (did d 13)⟩) rfl ?_,hE.last DK 13 11 70 rfl rfl rfl,rfl⟩;simp[AI.step,Opd.ev,v11,v12,Ap,Bk,Bj,did,D.copy]
  |i+14,hi=>omega
 ·rintro d ⟨e,h⟩ hall ⟨hE,hh⟩;simp only at hE hh;subst hh;have e1:Ap C0 C1 f st fo cl y1 y2 y3 x rest ds d=Ap C0 C1 f st fo cl y1 y2 y3 x rest ds (λ_=>true):=by
   simp[Ap,Bk,Bj,hall 7 (by decide),hall 13 (by decide)]
  rw[e1];exact hK e hE.2
 ·refine⟨⟨λj k' hj hd=>?_,hse⟩,rfl⟩;simp only[decide_eq_true_eq]at hd;have:L4[j]?=none:=AUO (by simpa[L4]using hd);rw[this]at hj;cases hj
def V5:AT:=match In with| .seq _ (.seq _ (.seq (.block _ (.regA _ _ _ t)) _))=>t|_=> .done
def XF:List (List Nat):=match In with| .seq _ (.seq _ (.seq (.block _ (.regA _ _ c _)) _))=>c|_=>[]
theorem Vk:In= .seq (.reg NL [1,2,4,6,74,75,76]) (.seq (.cond (.t 76 false) .skip (.exit 4)) (.seq (.block 5 (.regA Jf [1,2,4,6,74,75] XF V5)) (.reg NK [1,2,4,6,74,75]))):=rfl
theorem U4:V5.chk Jf XF (List.range 15)=true:=by kernel_rfl
def L3:List (Option Nat):=[some 77,some 78,some 79,some 80,some 81,some 82,some 83,some 84,some 85,some 86,some 87,some 88,some 89,some 90,none]
def C7:List (Option Nat):=[none,some 12,none,none,none,none,none,none,none,none,none,none,some 14,none,none]
def FS:List Nat:=[1,2,4,6,74,75]
theorem C5:okN L3 FS=true:=by kernel_rfl
def ACK (x:Lic) (ds:List V) (j:Nat):D:=
 match j with
 |0=> .ref 4 7
 |1=> .own 247 4 ds
 |2=> .ref 2 0
 |3=> .v (.int .i64 x.fr)
 |4=> .ref 2 0
 |5=> .v (.int .i64 x.to)
 |6=> .ref 2 0
 |7=> .v (.int .i64 x.fst)
 |8=> .ref 2 0
 |9=> .v (.int .i64 x.lst)
 |10=> .agg [.v (.int .i64 x.fr),.v (.int .i64 x.to),.v (.int .i64 x.fst),.v (.int .i64 x.lst)]
 |11=> .own 247 4 [x.V]
 |12=> .own 247 4 (ds++[x.V])
 |13=> .ref 4 7
 |_=> .any
def BV (d:Nat→Bool):Nat:=if d 9 then 4 else (if d 7 then 3 else (if d 5 then 2 else (if d 3 then 1 else (0))))
def CW (x:Lic) (rest:List Int):Nat→List Int
 |0=>Ag x.fr++(Ag x.to++(Ag x.fst++(Ag x.lst++rest)))
 |1=>Ag x.to++(Ag x.fst++(Ag x.lst++rest))
 |2=>Ag x.fst++(Ag x.lst++rest)
 |3=>Ag x.lst++rest
 |_=>rest
def BY (x:Lic) (ds:List V) (d:Nat→Bool):D:=if d 14 then .own 247 4 (ds++[x.V]) else if d 1 then .v (.list ds) else .own 247 4 ds
def Al (C0 C1:Row) (f st fo cl y1 y2 y3:D) (x:Lic) (rest:List Int) (ds:List V) (d:Nat→Bool):List Row:=
 [C0,C1,rdr (CW x rest (BV d)),.cells [.ref 2 0],.cells [f,st,fo,cl,y1,y2,y3,BY x ds d]]
def Kk (n k:Int) (j:Nat):D:=
 match j with
 |1=> .ref 0 0
 |2=> .ref 1 0
 |4=> .ref 3 0
 |6=> .ref 4 0
 |74=> .v (.int .i64 n)
 |75=> .v (.int .i64 k)
 |_=> .any
theorem AJQ (C0 C1:Row) (f st fo cl y1 y2 y3:D) (x:Lic) (hx:x.ok) (rest:List Int) (ds:List V) (hds:ds.length≤2^30) (n k:Int) {K:St→Prop}
  (hK:∀e,(∀k'∈FS,AH e k'=Kk n k k')→K ⟨e,Al C0 C1 f st fo cl y1 y2 y3 x rest ds (λ_=>true)⟩) (se:Env) (hse:∀k'∈FS,AH se k'=Kk n k k'):
  V5.ok Tryz.prog GLx Jf K ⟨se,Al C0 C1 f st fo cl y1 y2 y3 x rest ds (λj=>decide (15≤j))⟩:=by
 refine IE (λd s=>EnvD L3 C7 FS (ACK x ds) (Kk n k) d s.e∧s.h=Al C0 C1 f st fo cl y1 y2 y3 x rest ds d) U4 ?_ ?_ ?_
 ·rintro d i ⟨e,h⟩ hi hdi hdep hup ⟨hE,hh⟩;simp only at hE hh;subst hh;have b4:AH e 4= .ref 3 0:=hE.2 4 (by simp[FS]);have b6:AH e 6= .ref 4 0:=hE.2 6 (by simp[FS])
  match i,hi with
  |0,_=>
   exact⟨_,BA (v:= .ref 4 7) rfl (by simp[PI.val,Opd.ev,b6]),hE.push C5 0 77 rfl rfl,by simp[Al,BV,BY,did]⟩
  |1,_=>
   have v0:AH e 77= .ref 4 7:=hE.1 0 77 rfl (hdep 0 (by decide)) (by intro c hc;simp[C7]at hc);have d14:d 14=false:=hup 14 (by decide) (by decide);refine⟨_,CB (s1:=⟨(78,.own 247 4 ds)::e,Al C0 C1 f st fo cl y1 y2 y3 x rest ds (did d 1)⟩) rfl ?_,hE.push C5 1 78 rfl rfl,rfl⟩;simp[AI.step,Opd.ev,v0,Al,BV,BY,did,d14,hdi]
  |2,_=>
   exact⟨_,BA (v:= .ref 2 0) rfl (by simp[PI.val,Opd.ev,b4,Al,D.part,D.copy]),hE.push C5 2 79 rfl rfl,by simp[Al,BV,BY,did]⟩
  |3,_=>
   have v2:AH e 79= .ref 2 0:=hE.1 2 79 rfl (hdep 2 (by decide)) (by intro c hc;simp[C7]at hc);have d5:d 5=false:=hup 5 (by decide) (by decide);have d7:d 7=false:=hup 7 (by decide) (by decide);have d9:d 9=false:=hup 9 (by decide) (by decide);have hF:=p45 x.fr hx.1 (Al C0 C1 f st fo cl y1 y2 y3 x rest ds d) 2 (Ag x.to++(Ag x.fst++(Ag x.lst++rest))) (by simp[Al,CW,BV,hdi,d5,d7,d9]);exact⟨_,CD (k:=80) (r:= .v (.int .i64 x.fr)) rfl (by simpa[Ar,D.arg,Opd.ev,v2]using hF),hE.push C5 3 80 rfl rfl,by simp[CW,Al,BV,BY,did,hdi,d5,d7,d9]⟩
  |4,_=>
   exact⟨_,BA (v:= .ref 2 0) rfl (by simp[PI.val,Opd.ev,b4,Al,D.part,D.copy]),hE.push C5 4 81 rfl rfl,by simp[Al,BV,BY,did]⟩
  |5,_=>
   have v4:AH e 81= .ref 2 0:=hE.1 4 81 rfl (hdep 4 (by decide)) (by intro c hc;simp[C7]at hc);have d7:d 7=false:=hup 7 (by decide) (by decide);have d9:d 9=false:=hup 9 (by decide) (by decide);have d3:d 3=true:=hdep 3 (by decide);have hF:=p45 x.to hx.2.1 (Al C0 C1 f st fo cl y1 y2 y3 x rest ds d) 2 (Ag x.fst++(Ag x.lst++rest)) (by simp[Al,CW,BV,hdi,d7,d9,d3]);exact⟨_,CD (k:=82) (r:= .v (.int .i64 x.to)) rfl (by simpa[Ar,D.arg,Opd.ev,v4]using hF),hE.push C5 5 82 rfl rfl,by simp[CW,Al,BV,BY,did,hdi,d7,d9,d3]⟩
  |6,_=>
   exact⟨_,BA (v:= .ref 2 0) rfl (by simp[PI.val,Opd.ev,b4,Al,D.part,D.copy]),hE.push C5 6 83 rfl rfl,by simp[Al,BV,BY,did]⟩
  |7,_=>
   have v6:AH e 83= .ref 2 0:=hE.1 6 83 rfl (hdep 6 (by decide)) (by intro c hc;simp[C7]at hc);have d9:d 9=false:=hup 9 (by decide) (by decide);have d3:d 3=true:=hdep 3 (by decide);have d5:d 5=true:=hdep 5 (by decide);have hF:=p45 x.fst hx.2.2.1 (Al C0 C1 f st fo cl y1 y2 y3 x rest ds d) 2 (Ag x.lst++rest) (by simp[Al,CW,BV,hdi,d9,d3,d5]);exact⟨_,CD (k:=84) (r:= .v (.int .i64 x.fst)) rfl (by simpa[Ar,D.arg,Opd.ev,v6]using hF),hE.push C5 7 84 rfl rfl,by simp[CW,Al,BV,BY,did,hdi,d9,d3,d5]⟩
  |8,_=>
   exact⟨_,BA (v:= .ref 2 0) rfl (by simp[PI.val,Opd.ev,b4,Al,D.part,D.copy]),hE.push C5 8 85 rfl rfl,by simp[Al,BV,BY,did]⟩
  |9,_=>
   have v8:AH e 85= .ref 2 0:=hE.1 8 85 rfl (hdep 8 (by decide)) (by intro c hc;simp[C7]at hc);have d3:d 3=true:=hdep 3 (by decide);have d5:d 5=true:=hdep 5 (by decide);have d7:d 7=true:=hdep 7 (by decide);have hF:=p45 x.lst hx.2.2.2 (Al C0 C1 f st fo cl y1 y2 y3 x rest ds d) 2 (rest) (by simp[Al,CW,BV,hdi,d3,d5,d7]);exact⟨_,CD (k:=86) (r:= .v (.int .i64 x.lst)) rfl (by simpa[Ar,D.arg,Opd.ev,v8]using hF),hE.push C5 9 86 rfl rfl,by simp[CW,Al,BV,BY,did,hdi,d3,d5,d7]⟩
  |10,_=>
   have v3:AH e 80= .v (.int .i64 x.fr):=hE.1 3 80 rfl (hdep 3 (by decide)) (by intro c hc;simp[C7]at hc);have v5:AH e 82= .v (.int .i64 x.to):=hE.1 5 82 rfl (hdep 5 (by decide)) (by intro c hc;simp[C7]at hc);have v7:AH e 84= .v (.int .i64 x.fst):=hE.1 7 84 rfl (hdep 7 (by decide)) (by intro c hc;simp[C7]at hc);have v9:AH e 86= .v (.int .i64 x.lst):=hE.1 9 86 rfl (hdep 9 (by decide)) (by intro c hc;simp[C7]at hc);exact⟨_,BA (v:= .agg [.v (.int .i64 x.fr),.v (.int .i64 x.to),.v (.int .i64 x.fst),.v (.int .i64 x.lst)]) rfl (by simp[PI.val,EI,Opd.ev,v3,v5,v7,v9,D.cells?,D.copy,AO]),hE.push C5 10 87 rfl rfl,by simp[Al,BV,BY,did]⟩
  |11,_=>
   have v10:AH e 87= .agg [.v (.int .i64 x.fr),.v (.int .i64 x.to),.v (.int .i64 x.fst),.v (.int .i64 x.lst)]:=hE.1 10 87 rfl (hdep 10 (by decide)) (by intro c hc;simp[C7]at hc);refine⟨_,CB (s1:=⟨(88,.own 247 4 [x.V])::e,Al C0 C1 f st fo cl y1 y2 y3 x rest ds d⟩) rfl ?_,hE.push C5 11 88 rfl rfl,?_⟩
   ·simp[AI.step,Gr,D.toV,Opd.ev,v10,Lic.V,D.vs?,D.v?,D.copy,V.cells]
   ·simp[Al,BV,BY,did]
  |12,_=>
   have v1:AH e 78= .own 247 4 ds:=hE.1 1 78 rfl (hdep 1 (by decide)) (by intro c hc;simp[C7]at hc;subst hc;exact hdi);have v11:AH e 88= .own 247 4 [x.V]:=hE.1 11 88 rfl (hdep 11 (by decide)) (by intro c hc;simp[C7]at hc);have hroom:Ah (ds.length+1) 32=true:=by simp[Ah];omega
   refine⟨_,CB (s1:=⟨(89,.own 247 4 (ds++[x.V]))::(78,.any)::e,Al C0 C1 f st fo cl y1 y2 y3 x rest ds d⟩) rfl ?_,hE.pushC C5 12 89 1 78 rfl rfl rfl rfl,?_⟩
   ·simp[AI.step,Opd.ev,Opd.clear,v1,v11,EE,D.toV,D.copy,Lic.V,V.cells,hroom,D.v?]
   ·simp[Al,BV,BY,did]
  |13,_=>
   exact⟨_,BA (v:= .ref 4 7) rfl (by simp[PI.val,Opd.ev,b6]),hE.push C5 13 90 rfl rfl,by simp[Al,BV,BY,did]⟩
  |14,_=>
   have v12:AH e 89= .own 247 4 (ds++[x.V]):=hE.1 12 89 rfl (hdep 12 (by decide)) (by intro c hc;simp[C7]at hc;subst hc;exact hdi);have v13:AH e 90= .ref 4 7:=hE.1 13 90 rfl (hdep 13 (by decide)) (by intro c hc;simp[C7]at hc);refine⟨_,CB (s1:=⟨(89,.any)::e,Al C0 C1 f st fo cl y1 y2 y3 x rest ds (did d 14)⟩) rfl ?_,hE.last C5 14 12 89 rfl rfl rfl,rfl⟩;simp[AI.step,Opd.ev,v12,v13,Al,BV,BY,did,D.copy]
  |i+15,hi=>omega
 ·rintro d ⟨e,h⟩ hall ⟨hE,hh⟩;simp only at hE hh;subst hh;have e1:Al C0 C1 f st fo cl y1 y2 y3 x rest ds d=Al C0 C1 f st fo cl y1 y2 y3 x rest ds (λ_=>true):=by
   simp[Al,BV,BY,hall 9 (by decide),hall 14 (by decide)]
  rw[e1];exact hK e hE.2
 ·refine⟨⟨λj k' hj hd=>?_,hse⟩,rfl⟩;simp only[decide_eq_true_eq]at hd;have:L3[j]?=none:=AUO (by simpa[L3]using hd);rw[this]at hj;cases hj
theorem ACj (h:List Row) (c4 c1 rr:Nat) (bs:List V) (n:Int) (rest:List Int) (h4:h[c4]?=some (.cells [.ref rr 0])) (h1:h[c1]?=some (.cells [.v (.list bs)])) (hr:h[rr]?=some (rdr (Ag n++rest))) (hn:i64 n) (h0:0≤n) (hl:n≤bs.length) (hne:c1≠rr):
  FX 204 [.ref c4 0,.ref c1 0] h [.v (.int .i64 n)] (h.set rr (rdr rest)):=by
 refine AN ASo rfl ?_;have q:=p45 n hn h rr rest hr;have h1':(h.set rr (rdr rest))[c1]?=some (.cells [.v (.list bs)]):=by rw[AT5 (Ne.symm hne)];exact h1
 have m1:¬n <0:=by omega
 have m2:¬(bs.length:Int) <n:=by omega
 simp only[AN2,AB,AA,mt,AQ];simp;rw[Bq];refine Bm _ (λs hs=>⟨s,.inl rfl,hs⟩) ?_;simp only[mr];simp[h4,h1]
 constructor
 ·refine⟨_,_,q,?_⟩;simp[h1',m1,m2,AG,mu]
 ·refine⟨_,_,q,?_⟩;simp[m1,m2,AG,mu]
def V4:AT:=match sP with| .seq _ (.seq _ (.seq _ (.seq (.regA _ _ _ t) _)))=>t|_=> .done
def XE:List (List Nat):=match sP with| .seq _ (.seq _ (.seq _ (.seq (.regA _ _ c _) _)))=>c|_=>[]
def AB7:AC:=match sP with| .seq _ (.seq _ (.seq _ (.seq _ t)))=>t|_=> .skip
theorem vU:sP= .seq (.reg SF [1,2]) (.seq (.reg SE [1,2,4]) (.seq (.reg SD [1,2,4,5]) (.seq (.regA NF [1,2,4,5,6] XE V4) AB7))):=rfl
theorem U3:V4.chk NF XE (List.range 9)=true:=by kernel_rfl
def J6:List (Option Nat):=[some 14,some 15,some 16,some 17,some 18,some 19,some 20,some 6,none]
def Eh:List (Option Nat):=[none,none,none,none,none,none,none,none,none]
def HB:List Nat:=[1,2,4,5]
theorem E6:okN J6 HB=true:=by kernel_rfl
def OD (r:Rgt):D:= .agg [.v (.int .i64 r.file),.v (.int .i64 r.state),.v (.int .i64 r.force),.nil 130 5,.nil 88 4,.nil 3 1,.nil 246 3,.nil 247 4]
def ACJ (r:Rgt) (j:Nat):D:=
 match j with
 |0|2|4=> .ref 2 0
 |1=> .v (.int .i64 r.file)
 |3=> .v (.int .i64 r.state)
 |5=> .v (.int .i64 r.force)
 |6=>OD r
 |7=> .ref 4 0
 |_=> .any
def Ch (d:Nat→Bool):Nat:=if d 5 then 3 else (if d 3 then 2 else (if d 1 then 1 else 0))
def EG (r:Rgt) (rest:List Int):Nat→List Int
 |0=>Ag r.file++(Ag r.state++(Ag r.force++rest))
 |1=>Ag r.state++(Ag r.force++rest)
 |2=>Ag r.force++rest
 |_=>rest
def DI (r:Rgt) (d:Nat→Bool):List Row:=
 if d 7 then (if d 8 then [.cells [.v (.int .i64 r.file),.v (.int .i64 r.state),.v (.int .i64 r.force),.own 130 5 [],.own 88 4 [],.own 3 1 [],.own 246 3 [],.own 247 4 []]]
  else [.cells [.v (.int .i64 0),.v (.int .i64 0),.v (.int .i64 0),.own 130 5 [],.own 88 4 [],.own 3 1 [],.own 246 3 [],.own 247 4 []]]) else []
def Ay (C0 C1:Row) (r:Rgt) (rest:List Int) (d:Nat→Bool):List Row:=[C0,C1,rdr (EG r rest (Ch d)),.cells [.ref 2 0]]++DI r d
def NV (j:Nat):D:=
 match j with
 |1=> .ref 0 0
 |2=> .ref 1 0
 |4=> .ref 3 0
 |5=> .func 204 [.ref 3 0,.ref 0 0]
 |_=> .any
theorem AJP (C0 C1:Row) (r:Rgt) (hr:r.ok) (rest:List Int) {K:St→Prop}
  (hK:∀e,(∀k'∈HB,AH e k'=NV k')→AH e 6= .ref 4 0→K ⟨e,Ay C0 C1 r rest (λ_=>true)⟩) (se:Env) (hse:∀k'∈HB,AH se k'=NV k'):
  V4.ok Tryz.prog GLx NF K ⟨se,Ay C0 C1 r rest (λj=>decide (9≤j))⟩:=by
 refine IE (λd s=>EnvD J6 Eh HB (ACJ r) NV d s.e∧s.h=Ay C0 C1 r rest d) U3 ?_ ?_ ?_
 ·rintro d i ⟨e,h⟩ hi hdi hdep hup ⟨hE,hh⟩;simp only at hE hh;subst hh;have b4:AH e 4= .ref 3 0:=hE.2 4 (by simp[HB])
  match i,hi with
  |0,_=>
   exact⟨_,BA (v:= .ref 2 0) rfl (by simp[PI.val,Opd.ev,b4,Ay,D.part,D.copy]),hE.push E6 0 14 rfl rfl,by simp[Ay,Ch,DI,did]⟩
  |2,_=>
   exact⟨_,BA (v:= .ref 2 0) rfl (by simp[PI.val,Opd.ev,b4,Ay,D.part,D.copy]),hE.push E6 2 16 rfl rfl,by simp[Ay,Ch,DI,did]⟩
  |4,_=>
   exact⟨_,BA (v:= .ref 2 0) rfl (by simp[PI.val,Opd.ev,b4,Ay,D.part,D.copy]),hE.push E6 4 18 rfl rfl,by simp[Ay,Ch,DI,did]⟩
  |1,_=>
   have v0:AH e 14= .ref 2 0:=hE.1 0 14 rfl (hdep 0 (by decide)) (by intro c hc;simp[Eh]at hc);have d3:d 3=false:=hup 3 (by decide) (by decide);have d5:d 5=false:=hup 5 (by decide) (by decide);have hF:=p45 r.file hr.file (Ay C0 C1 r rest d) 2 (Ag r.state++(Ag r.force++rest)) (by simp[Ay,EG,Ch,hdi,d3,d5]);exact⟨_,CD (k:=15) (r:= .v (.int .i64 r.file)) rfl (by simpa[Ar,D.arg,Opd.ev,v0]using hF),hE.push E6 1 15 rfl rfl,by simp[EG,Ay,Ch,DI,did,hdi,d3,d5]⟩
  |3,_=>
   have v2:AH e 16= .ref 2 0:=hE.1 2 16 rfl (hdep 2 (by decide)) (by intro c hc;simp[Eh]at hc);have d5:d 5=false:=hup 5 (by decide) (by decide);have d1:d 1=true:=hdep 1 (by decide);have hF:=p45 r.state hr.state (Ay C0 C1 r rest d) 2 (Ag r.force++rest) (by simp[Ay,EG,Ch,hdi,d5,d1]);exact⟨_,CD (k:=17) (r:= .v (.int .i64 r.state)) rfl (by simpa[Ar,D.arg,Opd.ev,v2]using hF),hE.push E6 3 17 rfl rfl,by simp[EG,Ay,Ch,DI,did,hdi,d5,d1]⟩
  |5,_=>
   have v4:AH e 18= .ref 2 0:=hE.1 4 18 rfl (hdep 4 (by decide)) (by intro c hc;simp[Eh]at hc);have d1:d 1=true:=hdep 1 (by decide);have d3:d 3=true:=hdep 3 (by decide);have hF:=p45 r.force hr.force (Ay C0 C1 r rest d) 2 (rest) (by simp[Ay,EG,Ch,hdi,d1,d3]);exact⟨_,CD (k:=19) (r:= .v (.int .i64 r.force)) rfl (by simpa[Ar,D.arg,Opd.ev,v4]using hF),hE.push E6 5 19 rfl rfl,by simp[EG,Ay,Ch,DI,did,hdi,d1,d3]⟩
  |6,_=>
   have v1:AH e 15= .v (.int .i64 r.file):=hE.1 1 15 rfl (hdep 1 (by decide)) (by intro c hc;simp[Eh]at hc);have v3:AH e 17= .v (.int .i64 r.state):=hE.1 3 17 rfl (hdep 3 (by decide)) (by intro c hc;simp[Eh]at hc);have v5:AH e 19= .v (.int .i64 r.force):=hE.1 5 19 rfl (hdep 5 (by decide)) (by intro c hc;simp[Eh]at hc);exact⟨_,BA (v:=OD r) rfl (by simp[PI.val,EI,Opd.ev,v1,v3,v5,D.cells?,D.copy,AO,OD]),hE.push E6 6 20 rfl rfl,by simp[Ay,Ch,DI,did]⟩
  |7,_=>
   have d8:d 8=false:=hup 8 (by decide) (by decide);refine⟨_,CB (s1:=⟨(6,.ref 4 0)::e,Ay C0 C1 r rest (did d 7)⟩) rfl ?_,hE.push E6 7 6 rfl rfl,rfl⟩;simp[AI.step,Ay,Ch,DI,did,hdi,d8]
  |8,_=>
   have v6:AH e 20=OD r:=hE.1 6 20 rfl (hdep 6 (by decide)) (by intro c hc;simp[Eh]at hc);have v7:AH e 6= .ref 4 0:=hE.1 7 6 rfl (hdep 7 (by decide)) (by intro c hc;simp[Eh]at hc);have d7:d 7=true:=hdep 7 (by decide);refine⟨_,CB (s1:=⟨e,Ay C0 C1 r rest (did d 8)⟩) rfl ?_,hE.step E6 8 (λk hk=>by simp[J6]at hk) (λk _ _=>rfl),rfl⟩;simp[AI.step,Opd.ev,v6,v7,Ay,Ch,DI,did,hdi,d7,OD,D.copy,D.cells?,AO,D.toRow]
  |i+9,hi=>omega
 ·rintro d ⟨e,h⟩ hall ⟨hE,hh⟩;simp only at hE hh;subst hh;have e1:Ay C0 C1 r rest d=Ay C0 C1 r rest (λ_=>true):=by
   simp[Ay,Ch,DI,hall 5 (by decide),hall 7 (by decide),hall 8 (by decide)]
  rw[e1];exact hK e hE.2 (hE.1 7 6 rfl (hall 7 (by decide)) (by intro c hc;simp[Eh]at hc))
 ·refine⟨⟨λj k' hj hd=>?_,hse⟩,rfl⟩;simp only[decide_eq_true_eq]at hd;have:J6[j]?=none:=AUO (by simpa[J6]using hd);rw[this]at hj;cases hj
theorem AKR (C0 C1:Row) (f st fo cl y1 y2 y3:D) (rest:List Int) (l:List Dat) (hl:∀x∈l,x.ok) (hn:l.length≤2^30):
  awp Tryz.prog GLx (.loop Ip) (λe s=>e= .exit 0∧s=⟨[(1,.ref 0 0),(2,.ref 1 0),(4,.ref 3 0),(5,.func 204 [.ref 3 0,.ref 0 0]),(6,.ref 4 0),(33,.v (.int .i64 l.length)),(34,.v (.int .i64 l.length)),(35,.v (.bool false))],[C0,C1,rdr rest,.cells [.ref 2 0],.cells [f,st,fo,cl,.own 88 4 (l.map Dat.V),y1,y2,y3]]⟩)
   ⟨[(1,.ref 0 0),(2,.ref 1 0),(4,.ref 3 0),(5,.func 204 [.ref 3 0,.ref 0 0]),(6,.ref 4 0),(33,.v (.int .i64 l.length)),(34,.v (.int .i64 0))],[C0,C1,rdr (l.flatMap Bw++rest),.cells [.ref 2 0],.cells [f,st,fo,cl,.own 88 4 [],y1,y2,y3]]⟩:=by
 refine Ac l.length (λk=>⟨[(1,.ref 0 0),(2,.ref 1 0),(4,.ref 3 0),(5,.func 204 [.ref 3 0,.ref 0 0]),(6,.ref 4 0),(33,.v (.int .i64 l.length)),(34,.v (.int .i64 k))],[C0,C1,rdr ((l.drop k).flatMap Bw++rest),.cells [.ref 2 0],.cells [f,st,fo,cl,.own 88 4 ((l.take k).map Dat.V),y1,y2,y3]]⟩) (by simp) ?_;intro k hk;rw[Vm];simp only[AB,AA,AF,AE,R6];by_cases h1:k <l.length
 ·have hd:l.drop k=l[k]::l.drop (k+1):=AU9 h1;have hx:=hl _ (AUc h1);have hw:IntKind.i64.wrap ((k:Int)+1)=k+1:=AJ;have htk:(l.map Dat.V).take (k+1)=(l.map Dat.V).take k++[Dat.V l[k]]:=by
   rw[←AUM,←AUM,AUx h1,AUN];rfl
  obtain⟨x,hxx⟩:∃x,x=l[k]:=⟨_,rfl⟩;rw[←hxx]at hd hx htk;simp[h1,AD];rw[Bq];refine Bm _ (λs hs=>⟨s,.inl rfl,hs⟩) ?_;have hX:(l.drop k).flatMap Bw++rest=CX x ((l.drop (k+1)).flatMap Bw++rest) 0:=by rw[hd];simp[CX,Bw]
  rw[hX];refine AJS C0 C1 f st fo cl y1 y2 y3 x hx ((l.drop (k+1)).flatMap Bw++rest) ((l.map Dat.V).take k) (by simp;omega) l.length k (λe he=>?_) _ (by
   intro k' hk';simp only[Ej,ATt,AT2,or_false]at hk';rcases hk' with rfl|rfl|rfl|rfl|rfl|rfl|rfl<;>rfl)
  have q:∀k'∈Ej,AH e k'=Li l.length k k':=he;simp only[Ej,AUX,AT2,false_implies,implies_true,and_true]at q;obtain⟨q0,q1,q2,q3,q4,q5,q6⟩:=q;simp only[q0,q1,q2,q3,q4,q5,q6,BL,NR];simp[Li,hw,h1,Am,Bl,CX,Bp,htk]
 ·have:k=l.length:=by omega
  subst this;simp[AM]
theorem AKQ (C0 C1:Row) (f st fo cl y1 y2 y3:D) (rest:List Int) (l:List Own) (hl:∀x∈l,x.ok) (hn:l.length≤2^30):
  awp Tryz.prog GLx (.loop Io) (λe s=>e= .exit 2∧s=⟨[(1,.ref 0 0),(2,.ref 1 0),(4,.ref 3 0),(5,.func 204 [.ref 3 0,.ref 0 0]),(6,.ref 4 0),(56,.v (.int .i64 l.length)),(57,.v (.int .i64 l.length)),(58,.v (.bool false))],[C0,C1,rdr rest,.cells [.ref 2 0],.cells [f,st,fo,cl,y1,y2,.own 246 3 (l.map Own.V),y3]]⟩)
   ⟨[(1,.ref 0 0),(2,.ref 1 0),(4,.ref 3 0),(5,.func 204 [.ref 3 0,.ref 0 0]),(6,.ref 4 0),(56,.v (.int .i64 l.length)),(57,.v (.int .i64 0))],[C0,C1,rdr (l.flatMap Bu++rest),.cells [.ref 2 0],.cells [f,st,fo,cl,y1,y2,.own 246 3 [],y3]]⟩:=by
 refine Ac l.length (λk=>⟨[(1,.ref 0 0),(2,.ref 1 0),(4,.ref 3 0),(5,.func 204 [.ref 3 0,.ref 0 0]),(6,.ref 4 0),(56,.v (.int .i64 l.length)),(57,.v (.int .i64 k))],[C0,C1,rdr ((l.drop k).flatMap Bu++rest),.cells [.ref 2 0],.cells [f,st,fo,cl,y1,y2,.own 246 3 ((l.take k).map Own.V),y3]]⟩) (by simp) ?_;intro k hk;rw[Vl];simp only[AB,AA,AF,AE,NO];by_cases h1:k <l.length
 ·have hd:l.drop k=l[k]::l.drop (k+1):=AU9 h1;have hx:=hl _ (AUc h1);have hw:IntKind.i64.wrap ((k:Int)+1)=k+1:=AJ;have htk:(l.map Own.V).take (k+1)=(l.map Own.V).take k++[Own.V l[k]]:=by
   rw[←AUM,←AUM,AUx h1,AUN];rfl
  obtain⟨x,hxx⟩:∃x,x=l[k]:=⟨_,rfl⟩;rw[←hxx]at hd hx htk;simp[h1,AD];rw[Bq];refine Bm _ (λs hs=>⟨s,.inl rfl,hs⟩) ?_;have hX:(l.drop k).flatMap Bu++rest=Cw x ((l.drop (k+1)).flatMap Bu++rest) 0:=by rw[hd];simp[Cw,Bu]
  rw[hX];refine AJR C0 C1 f st fo cl y1 y2 y3 x hx ((l.drop (k+1)).flatMap Bu++rest) ((l.map Own.V).take k) (by simp;omega) l.length k (λe he=>?_) _ (by
   intro k' hk';simp only[FT,ATt,AT2,or_false]at hk';rcases hk' with rfl|rfl|rfl|rfl|rfl|rfl|rfl<;>rfl)
  have q:∀k'∈FT,AH e k'=Kl l.length k k':=he;simp only[FT,AUX,AT2,false_implies,implies_true,and_true]at q;obtain⟨q0,q1,q2,q3,q4,q5,q6⟩:=q;simp only[q0,q1,q2,q3,q4,q5,q6,BL,NN];simp[Kl,hw,h1,Ap,Bk,Cw,Bj,htk]
 ·have:k=l.length:=by omega
  subst this;simp[AM]
theorem AKP (C0 C1:Row) (f st fo cl y1 y2 y3:D) (rest:List Int) (l:List Lic) (hl:∀x∈l,x.ok) (hn:l.length≤2^30):
  awp Tryz.prog GLx (.loop In) (λe s=>e= .exit 4∧s=⟨[(1,.ref 0 0),(2,.ref 1 0),(4,.ref 3 0),(6,.ref 4 0),(74,.v (.int .i64 l.length)),(75,.v (.int .i64 l.length)),(76,.v (.bool false))],[C0,C1,rdr rest,.cells [.ref 2 0],.cells [f,st,fo,cl,y1,y2,y3,.own 247 4 (l.map Lic.V)]]⟩)
   ⟨[(1,.ref 0 0),(2,.ref 1 0),(4,.ref 3 0),(6,.ref 4 0),(74,.v (.int .i64 l.length)),(75,.v (.int .i64 0))],[C0,C1,rdr (l.flatMap Bv++rest),.cells [.ref 2 0],.cells [f,st,fo,cl,y1,y2,y3,.own 247 4 []]]⟩:=by
 refine Ac l.length (λk=>⟨[(1,.ref 0 0),(2,.ref 1 0),(4,.ref 3 0),(6,.ref 4 0),(74,.v (.int .i64 l.length)),(75,.v (.int .i64 k))],[C0,C1,rdr ((l.drop k).flatMap Bv++rest),.cells [.ref 2 0],.cells [f,st,fo,cl,y1,y2,y3,.own 247 4 ((l.take k).map Lic.V)]]⟩) (by simp) ?_;intro k hk;rw[Vk];simp only[AB,AA,AF,AE,NL];by_cases h1:k <l.length
 ·have hd:l.drop k=l[k]::l.drop (k+1):=AU9 h1;have hx:=hl _ (AUc h1);have hw:IntKind.i64.wrap ((k:Int)+1)=k+1:=AJ;have htk:(l.map Lic.V).take (k+1)=(l.map Lic.V).take k++[Lic.V l[k]]:=by
   rw[←AUM,←AUM,AUx h1,AUN];rfl
  obtain⟨x,hxx⟩:∃x,x=l[k]:=⟨_,rfl⟩;rw[←hxx]at hd hx htk;simp[h1,AD];rw[Bq];refine Bm _ (λs hs=>⟨s,.inl rfl,hs⟩) ?_;have hX:(l.drop k).flatMap Bv++rest=CW x ((l.drop (k+1)).flatMap Bv++rest) 0:=by rw[hd];simp[CW,Bv]
  rw[hX];refine AJQ C0 C1 f st fo cl y1 y2 y3 x hx ((l.drop (k+1)).flatMap Bv++rest) ((l.map Lic.V).take k) (by simp;omega) l.length k (λe he=>?_) _ (by
   intro k' hk';simp only[FS,ATt,AT2,or_false]at hk';rcases hk' with rfl|rfl|rfl|rfl|rfl|rfl<;>rfl)
  have q:∀k'∈FS,AH e k'=Kk l.length k k':=he;simp only[FS,AUX,AT2,false_implies,implies_true,and_true]at q;obtain⟨q0,q1,q2,q3,q4,q5⟩:=q;simp only[q0,q1,q2,q3,q4,q5,BL,NK];simp[Kk,hw,h1,Al,BV,CW,BY,htk]
 ·have:k=l.length:=by omega
  subst this;simp[AM]
theorem sO:AB7=(.seq (.reg SC [1,2,4,5,6,7,8]) (.seq (.seq (.reg SB [1,2,4,5,6,7,28]) (.cond (.t 28 false) (.seq (.reg sN [2,3]) .ret) .skip)) (.seq (.reg SA [1,2,4,5,6]) (.seq (.seq (.reg R8 [1,2,4,5,6,33,34]) (.block 0 (.loop Ip))) (.seq (.reg NQ [1,2,4,5,6]) (.seq (.seq (.reg NP [1,2,4,5,6,56,57]) (.block 2 (.loop Io))) (.seq (.seq (.reg NM [1,2,4,6,74,75]) (.block 4 (.loop In))) (.seq (.seq (.reg NJ [1,2,6,94]) (.cond (.t 94 false) (.seq (.reg Uv [2,3]) .ret) .skip)) (.seq (.seq (.reg NI [1,2,6,9,10]) (.seq (.reg NH [2,6,109]) (.cond (.t 109 false) (.seq (.reg Uu [2,3]) .ret) .skip))) (.seq (.reg NG [2,3]) .ret)))))))))):=rfl
theorem PP (x:Dat):1≤(Bw x).length:=by
 have:=GJ 9 (II x.cl);simp only[Bw,ATr,Ag,Gq];omega
theorem PM (x:Own):1≤(Bu x).length:=by
 have:=GJ 9 (II x.party);simp only[Bu,ATr,Ag,Gq];omega
theorem PO (x:Lic):1≤(Bv x).length:=by
 have:=GJ 9 (II x.fr);simp only[Bv,ATr,Ag,Gq];omega
theorem Hn {α:Type} {f:α→List Int} (hf:∀x,1≤(f x).length):∀l:List α,l.length≤(l.flatMap f).length
 |[]=>by simp
 |x::l=>by
  have:=hf x;have:=Hn hf l;simp only[AT8,ATr,AUA];omega
theorem AQ0 (r:Rgt) (hr:r.ok) (hf:At r=true) (hz:CL r.claims=0) (hc32:r.claims.length≤32) (hb:(Bx r).length≤2^39) (hB:∀x∈Bx r,0≤x∧x <256):PX 113 [AL .u8 (Bx r)] [r.V,.int .i64 0]:=by
 refine AK ATS rfl ?_;have q51:=(p51 r hr).fsp;rw[hf,if_pos rfl,if_pos rfl]at q51;have q205:=(AQQ r.claims hr.claims hz hc32 hr.enc).fsp;simp at q51 q205;have hdl:=Hn PP r.dates;have hol:=Hn PM r.owners;have hll:=Hn PO r.lics;have hbl:=D3 r.bad;have hb':=hb;simp only[Bx,BI,BF,ATr]at hb';have hE:Bx r=Ag r.file++(Ag r.state++(Ag r.force++(BI (BJ r.claims)++(Ag r.dates.length++(r.dates.flatMap Bw++(BF r.bad++(Ag r.owners.length++(r.owners.flatMap Bu++(Ag r.lics.length++r.lics.flatMap Bv))))))))):=by simp[Bx]
 obtain⟨E,hEE⟩:∃E,E=Bx r:=⟨_,rfl⟩;rw[←hEE]at hE hb hB ⊢;obtain⟨R5,h5⟩:∃R,R=Ag r.lics.length++r.lics.flatMap Bv:=⟨_,rfl⟩;obtain⟨R4,h4⟩:∃R,R=Ag r.owners.length++(r.owners.flatMap Bu++R5):=⟨_,rfl⟩;obtain⟨R3,h3⟩:∃R,R=BF r.bad++R4:=⟨_,rfl⟩;obtain⟨R2,h2⟩:∃R,R=Ag r.dates.length++(r.dates.flatMap Bw++R3):=⟨_,rfl⟩;obtain⟨R1,h1⟩:∃R,R=BI (BJ r.claims)++R2:=⟨_,rfl⟩;have hE':E=Ag r.file++(Ag r.state++(Ag r.force++R1)):=by rw[hE,h1,h2,h3,h4,h5]
 simp only[vU,AB,AA,AF,AE,SF,SE,SD,AY];simp;refine⟨_,_,(p44 E (by omega) _),?_⟩;simp[AO];rw[Bq];refine Bm _ (λs hs=>⟨s,.inl rfl,hs⟩) ?_;obtain⟨C0,hC0⟩:∃C,C=Row.cells [.v (AL .u8 E)]:=⟨_,rfl⟩;obtain⟨C1,hC1⟩:∃C,C=Row.cells [.v (.int .i64 0),.v (.int .i64 0),.v (.int .i64 0),.own 130 5 [],.own 88 4 [],.own 3 1 [],.own 246 3 [],.own 247 4 []]:=⟨_,rfl⟩;rw[←hC0,←hC1];have hrow:([C0,C1,rdr E,.cells [.ref 2 0]]:List Row)=Ay C0 C1 r R1 (λj=>decide (9≤j)):=by rw[hE'];rfl
 rw[hrow];refine AJP C0 C1 r hr R1 (λe he h6=>?_) _ (by
  intro k' hk';simp only[HB,ATt,AT2,or_false]at hk';rcases hk' with rfl|rfl|rfl|rfl<;>rfl)
 simp only[HB,AUX,AT2,false_implies,implies_true,and_true,NV]at he;obtain⟨e1,e2,e4,e5⟩:=he;simp only[BL,e1,e2,e4,e5,h6];have hrow2:Ay C0 C1 r R1 (λ_=>true)=[C0,C1,rdr R1,.cells [.ref 2 0],.cells [.v (.int .i64 r.file),.v (.int .i64 r.state),.v (.int .i64 r.force),.own 130 5 [],.own 88 4 [],.own 3 1 [],.own 246 3 [],.own 247 4 []]]:=rfl;rw[hrow2,sO];simp only[AB,AA,AF,AE,SC];simp;refine⟨_,_,(AIg (BJ r.claims) _ 2 R2 (by rw[h2,h3,h4,h5];simp only[BI,BF,ATr];omega) (by rw[h1];rfl)),?_⟩;simp;refine⟨_,_,q205 _,?_⟩;simp;simp only[SB];simp[AD];simp only[SA];simp[AO,D.toRow];simp only[R8];simp;have hElen:E.length=(Ag r.file).length+((Ag r.state).length+((Ag r.force).length+R1.length)):=by rw[hE'];simp
 have l1:R1.length=(BI (BJ r.claims)).length+R2.length:=by rw[h1];simp
 have l2:R2.length=(Ag r.dates.length).length+((r.dates.flatMap Bw).length+R3.length):=by rw[h2];simp[-List.length_flatMap]
 have l3:R3.length=(BF r.bad).length+R4.length:=by rw[h3];simp
 have l4:R4.length=(Ag r.owners.length).length+((r.owners.flatMap Bu).length+R5.length):=by rw[h4];simp[-List.length_flatMap]
 have l5:R5.length=(Ag r.lics.length).length+(r.lics.flatMap Bv).length:=by rw[h5];simp[-List.length_flatMap]
 have hld:=hr.ld;have hlo:=hr.lo;have hll2:=hr.ll;have m1:=ACj [C0,C1,rdr R2,.cells [.ref 2 0],.cells [.v (.int .i64 r.file),.v (.int .i64 r.state),.v (.int .i64 r.force),.v (.list (r.claims.map Clm.V)),.own 88 4 [],.own 3 1 [],.own 246 3 [],.own 247 4 []]] 3 0 2 (E.map (.int .u8)) r.dates.length (r.dates.flatMap Bw++R3) rfl (by rw[hC0];rfl) (by rw[h2];rfl) (by unfold i64;omega) (by omega) (by rw[AT9];omega) (by decide);refine⟨_,_,m1,?_⟩;have hD:=AKR C0 C1 (.v (.int .i64 r.file)) (.v (.int .i64 r.state)) (.v (.int .i64 r.force)) (.v (.list (r.claims.map Clm.V))) (.own 3 1 []) (.own 246 3 []) (.own 247 4 []) R3 r.dates hr.dates hld;refine HC hD ?_;simp only[NQ];simp;refine⟨_,_,(ACq r.bad hr.bad _ 2 R4 (by omega) (by rw[h3];rfl)),?_⟩;simp[AO,D.toRow];simp only[NP];simp;have m2:=ACj [C0,C1,rdr R4,.cells [.ref 2 0],.cells [.v (.int .i64 r.file),.v (.int .i64 r.state),.v (.int .i64 r.force),.v (.list (r.claims.map Clm.V)),.own 88 4 (r.dates.map Dat.V),.own 3 1 (r.bad.map (.int .i64)),.own 246 3 [],.own 247 4 []]] 3 0 2 (E.map (.int .u8)) r.owners.length (r.owners.flatMap Bu++R5) rfl (by rw[hC0];rfl) (by rw[h4];rfl) (by unfold i64;omega) (by omega) (by rw[AT9];omega) (by decide);refine⟨_,_,m2,?_⟩;have hO:=AKQ C0 C1 (.v (.int .i64 r.file)) (.v (.int .i64 r.state)) (.v (.int .i64 r.force)) (.v (.list (r.claims.map Clm.V))) (.own 88 4 (r.dates.map Dat.V)) (.own 3 1 (r.bad.map (.int .i64))) (.own 247 4 []) R5 r.owners hr.owners hlo;refine HC hO ?_;simp only[NM];simp;have m3:=ACj [C0,C1,rdr R5,.cells [.ref 2 0],.cells [.v (.int .i64 r.file),.v (.int .i64 r.state),.v (.int .i64 r.force),.v (.list (r.claims.map Clm.V)),.own 88 4 (r.dates.map Dat.V),.own 3 1 (r.bad.map (.int .i64)),.own 246 3 (r.owners.map Own.V),.own 247 4 []]] 3 0 2 (E.map (.int .u8)) r.lics.length (r.lics.flatMap Bv++[]) rfl (by rw[hC0];rfl) (by rw[h5];simp) (by unfold i64;omega) (by omega) (by rw[AT9];omega) (by decide);refine⟨_,_,m3,?_⟩;have hL:=AKP C0 C1 (.v (.int .i64 r.file)) (.v (.int .i64 r.state)) (.v (.int .i64 r.force)) (.v (.list (r.claims.map Clm.V))) (.own 88 4 (r.dates.map Dat.V)) (.own 3 1 (r.bad.map (.int .i64))) (.own 246 3 (r.owners.map Own.V)) [] r.lics hr.lics hll2;refine HC hL ?_;simp only[NJ];simp;have hend:=ACp [C0,C1,rdr [],.cells [.ref 2 0],.cells [.v (.int .i64 r.file),.v (.int .i64 r.state),.v (.int .i64 r.force),.v (.list (r.claims.map Clm.V)),.own 88 4 (r.dates.map Dat.V),.own 3 1 (r.bad.map (.int .i64)),.own 246 3 (r.owners.map Own.V),.own 247 4 (r.lics.map Lic.V)]] 2 rfl;refine⟨_,_,hend,?_⟩;simp[AD];simp only[NI];simp[D.one?,D.vs?,D.v?];have hV:r.V= .agg [.int .i64 r.file,.int .i64 r.state,.int .i64 r.force,.list (r.claims.map Clm.V),.list (r.dates.map Dat.V),.list (r.bad.map (.int .i64)),.list (r.owners.map Own.V),.list (r.lics.map Lic.V)]:=rfl;rw[hV]at q51 ⊢;refine⟨_,_,q51 _,?_⟩;simp;simp only[NH];have hbB:=FR E hB;simp[hC0,←hEE,AL,hbB,AD];simp only[NG];simp[hC1,AO,D.toRow,D.one?,D.vs?,D.v?,AG,AB8,B8]
theorem VF {own:List Rgt} (hp:own.Pairwise λa b=>a.file≠b.file):(ER ((kmL own).E.map (·.1))).map (Gi (kmL own))=(Dk own).map λr=>V.agg [.int .i64 r.file,AL .u8 (Bx r)]:=by
 have hE:=Sk own hp;have e1:(kmL own).E.map (·.1)=own.map Rgt.file:=by rw[hE,AVN];rfl
 rw[e1];unfold Dk;rw[AVN];refine AWW λk hk=>?_;have hk2:k∈own.map Rgt.file:=(AWZ _ _).mem_iff.1 hk;obtain⟨r,hr,rfl⟩:=ATw.1 hk2;have hv:Ku (kmL own) r.file=Bx r:=by
  unfold Ku;rw[hE,List.find?_map];have:(own.find? ((λx:Int×List Int=>x.1==r.file) ∘ L0))=some r:=Es hp hr;rw[this];rfl
 show Gi (kmL own) r.file=_;rw[Function.comp_apply,FD hp hr];unfold Gi;rw[hv]
def ps6:List V:=DF.map (AL .i64)
def bs6:List Bool:=CQ 6 zb
theorem NW:bs6.length=4096:=by unfold bs6;rw[IY,Vr]
def G6 (own:List Rgt):List Row:=CN ps6 bs6::EC (.ref 0 0) 1 own
theorem Ek (own:List Rgt):Low (G6 own):=by
 have hT:∀row∈[CN ps6 bs6],row.low [CN ps6 bs6].length=true:=by
  intro row hrow;rw[ATy.1 hrow];simp only[CN,Row.low];refine D1 λd hd=>?_;rcases ATt.1 hd with rfl|hd
  ·rfl
  ·obtain⟨b,_,rfl⟩:=ATw.1 hd;rfl
 have q0:PN [CN ps6 bs6] (.ref 0 0) own (G6 own):=⟨[],by simp[G6],by simp⟩;exact q0.low (by simp[D.lt]) hT
theorem Hc {h Z J:List Row} (hZ:Low (h++Z)) (hJ:Lows J):Low (h++(Z++J)):=by
 rw[←AT1];exact hZ.lows hJ
theorem tU {own:List Rgt} (hp:own.Pairwise λa b=>a.file≠b.file) (hn:own.length≤2^20) (hf:∀r∈own,(0≤r.file∧r.file≤4095)∧(Bx r).length≤2^39) (Z:List Row) (hZ:Low (G6 own++Z)):
  FX 137 [.ref 4 0,.v (.int .i64 0),.v (.int .i64 4095)] (G6 own++Z) [.own 193 2 ((Dk own).map λr=>V.agg [.int .i64 r.file,AL .u8 (Bx r)]),.v (.agg [.list [],.list [],.list []]),.v (.int .i64 0)] (G6 own++Z):=by
 have hE:=Sk own hp;have q:=AQs (G6 own++Z) hZ 4 2 (.mref 3) (kmL own) rfl rfl (by rw[hE,AT9];omega) (by
  intro x hx;rw[hE]at hx;obtain⟨r,hr,rfl⟩:=ATw.1 hx;exact hf r hr)
 rw[VF hp]at q;exact q
theorem Sr (b:Int×Int→Bool):∀(A:List (Int×Int)) (i:Nat) (c:Int×Int),A[i]?=some c→
  ((b c=true∧(A.filter b)[((A.take i).filter b).length]?=some c)∨(b c=false∧∀y,(A.filter b)[((A.take i).filter b).length]?=some y→y≠c))∧((A.take (i+1)).filter b).length=((A.take i).filter b).length+(if b c then 1 else 0):=by
 intro A i c hc;obtain⟨hi,hg⟩:=ATp.1 hc;have hsp:A=A.take i++c::A.drop (i+1):=by
  conv=>lhs;rw[←AUe i A,AU9 hi,hg]
 have hf:A.filter b=(A.take i).filter b++((if b c then [c] else [])++(A.drop (i+1)).filter b):=by
  conv=>lhs;rw[hsp,AVO,AVP]
  split<;>simp
 have htk:A.take (i+1)=A.take i++[c]:=by rw[AUE,hc];rfl
 constructor
 ·cases hb:b c with
  |true=>
   refine .inl ⟨rfl,?_⟩;rw[hf,AUK (ATs _),hb];simp
  |false=>
   refine .inr ⟨rfl,λy hy=>?_⟩;rintro rfl;have:=ATq hy;have:=(AVL.1 this).2;rw[hb]at this;cases this
 ·rw[htk,AVO,ATr,AVP,AVy];split<;>rfl
def MV:AC:=(.seq (.regD H6 [9,10,13,14,15,17,19,21,22,23,24,33] [[],[],[1],[1,2],[0,1,2,3],[0,1,2,3,4],[0,1,2,3,4,5],[0,1,2,3,4,5,6],[0,1,2,3,4,5],[0,1,2,3,4,5,6,7,8],[0,1,2,3,4,5,6,7,8,9],[0,1,2,3,4,5],[0,1,2,3,4,5,11],[0,1,2,3,4,5],[0,1,2,3,4,5,11,12,13],[0,1,2,3,4,5,11,12,13,14],[0,1,2,3,4,5,6,7,8,9,10,11,12,13,14,15],[0,1,2,3,4,5,6,7,8,9,10,11,12,13,14,15,16],[0,1,2,3,4,5,6,7,8,9,10,11,12,13,14,15,16,17]]) (.seq (.seq (.reg H5 [9,10,13,14,15,17,19,21,22,23,33,212]) (.cond (.t 212 false) (.seq (.reg zZ [8]) .ret) .skip)) (.seq (.regD H4 [9,10,13,14,15,17,19,21,22,23,33,34] [[],[],[1],[1,2],[0,1,2,3],[0,1,2,3,4],[0,1,2,3,4,5],[0,1,2,3,4,5,6],[0,1,2,3,4,5],[0,1,2,3,4,5,6,7,8],[0,1,2,3,4,5,6,7,8,9],[0,1,2,3,4,5],[0,1,2,3,4,5,11],[0,1,2,3,4,5],[0,1,2,3,4,5,11,12,13],[0,1,2,3,4,5,11,12,13,14],[0,1,2,3,4,5,6,7,8,9,10,11,12,13,14,15],[0,1,2,3,4,5,6,7,8,9,10,11,12,13,14,15,16],[0,1,2,3,4,5,6,7,8,9,10,11,12,13,14,15,16,17]]) (.seq (.seq (.reg Hz [9,10,13,14,15,17,19,21,22,23,33,34,235]) (.cond (.t 235 false) (.seq (.reg zY [8]) .ret) .skip)) (.seq (.seq (.reg Hy [9,10,13,14,15,17,19,21,22,23,34,236]) (.cond (.t 236 false) (.reg Hx [9,10,13,14,15,17,19,21,22,23,34]) .skip)) (.seq (.reg Hw [9,10,13,14,15,17,19,21,22,23,239]) (.cond (.t 239 false) (.reg Hv [9,10,13,14,15,17,19,21,22,23]) .skip)))))))
theorem uN:uO=(.seq (.seq (.reg ZF [9,10,13,14,15,17,19,21,22,23,93]) (.cond (.t 93 false) .skip (.exit 0))) (.seq (.block 1 (.seq (.reg ZD [9,10,13,14,15,17,19,21,22,23,24]) (.seq (.seq (.reg ZC [9,10,13,14,15,17,19,21,22,23,24,25]) (.block 2 (.loop uM))) MV))) (.reg ZE [9,10,13,14,15,17,19,21,22,23]))):=rfl
set_option maxHeartbeats 2000000 in
theorem l4t (H:List Row) (t13 t15 t17 t19:Nat) (first:Int) (own:List Rgt) (A B1 B2:List (Int×Int)) (i:Nat) (c:Int×Int) (hc:A[i]?=some c)
  (e0 e1 e2 e3 e4 e5 e6 e7 e9 e10 e11 e12:D) (h15:H[t15]?=some (.cells [e0,e1,e2,e3,e4,e5,e6,e7,.v (.list (A.map BX)),e9,e10,e11,e12]))
  (x0 x1 x2 x3 x4 x5 x6 x7 x9 x10 x11 x12:D) (h17:H[t17]?=some (.cells [x0,x1,x2,x3,x4,x5,x6,x7,.v (.list (B1.map BX)),x9,x10,x11,x12]))
  (y0 y1 y2 y3 y4 y5 y6 y7 y9 y10 y11 y12:D) (h19:H[t19]?=some (.cells [y0,y1,y2,y3,y4,y5,y6,y7,.v (.list (B2.map BX)),y9,y10,y11,y12]))
  (n la:Nat) (hnb:n≤2^30) (hlb:la≤2^30) (b1 b2:Bool) (hmono:b1=true→b2=true)
  (hn:(b1=true∧B1[n]?=some c)∨(b1=false∧∀y,B1[n]?=some y→y≠c)) (hla:(b2=true∧B2[la]?=some c)∨(b2=false∧∀y,B2[la]?=some y→y≠c)) (J:List Row) (Q:AExit→St→Prop)
  (hQ:∀e,AH e 9= .ref 0 0→AH e 10= .v (.list (own.map Rgt.V))→AH e 13= .ref t13 0→AH e 14= .v (.int .i64 first)→AH e 15= .ref t15 0→AH e 17= .ref t17 0→AH e 19= .ref t19 0→AH e 21= .v (.int .i64 ((n+if b1 then 1 else 0:Nat):Int))→AH e 22= .v (.int .i64 ((la+if b2 then 1 else 0:Nat):Int))→
   AH e 23= .v (.int .i64 i)→Q .normal ⟨e,H++J⟩):
  ∀e,AH e 9= .ref 0 0→AH e 10= .v (.list (own.map Rgt.V))→AH e 13= .ref t13 0→AH e 14= .v (.int .i64 first)→AH e 15= .ref t15 0→AH e 17= .ref t17 0→AH e 19= .ref t19 0→AH e 21= .v (.int .i64 n)→AH e 22= .v (.int .i64 la)→
   AH e 23= .v (.int .i64 i)→AH e 24= .v (.bool b1)→awp Tryz.prog GLx MV Q ⟨e,H++J⟩:=by
 intro e f9 f10 f13 f14 f15 f17 f19 f21 f22 f23 f24;have h15':=λZ=>AS Z h15;have h17':=λZ=>AS Z h17;have h19':=λZ=>AS Z h19;have w1:IntKind.i64.wrap ((n:Int)+1)=n+1:=AJ;have w2:IntKind.i64.wrap ((la:Int)+1)=la+1:=AJ;rcases hn with ⟨rfl,hB⟩|⟨rfl,hB⟩
 ·obtain⟨hl,hBg⟩:=ATp.1 hB;have hb2:b2=true:=hmono rfl;subst hb2;rcases hla with ⟨-,hB2⟩|⟨hf,-⟩
  ·obtain⟨hl2,hBg2⟩:=ATp.1 hB2;simp only[MV,AB,Aa,AE,H6];simp[f9,f10,f13,f14,f15,f17,f19,f21,f22,f23,f24,h17',h15',hc,BX,V.eqL,V.eq1,AO,hB,hBg,hl];simp only[AA,H5];simp[AD];simp only[Aa,H4];simp[h19',h15',hc,BX,V.eqL,V.eq1,AO,hB2,hBg2,hl2];simp[Hz,AD,AA,Hy,Hx,Hw,Hv,w1,w2];exact hQ _ rfl rfl rfl rfl rfl rfl rfl rfl rfl rfl
  ·cases hf
 ·by_cases hl:n <B1.length
  ·obtain⟨y,hy⟩:∃y,B1[n]?=some y:=⟨_,ATo hl⟩;have hyg:B1[n]'hl=y:=(ATp.1 hy).2;have hyn:¬(y.1=c.1∧y.2=c.2):=λh=>hB y hy (AU5 h.1 h.2);have hyn2:¬y.1=c.1∨¬y.2=c.2:=Decidable.not_and_iff_or_not.1 hyn;rcases hla with ⟨rfl,hB2⟩|⟨rfl,hB2⟩
   ·obtain⟨hl2,hBg2⟩:=ATp.1 hB2;simp only[MV,AB,Aa,AE,H6];simp[f9,f10,f13,f14,f15,f17,f19,f21,f22,f23,f24,h17',h15',hc,BX,V.eqL,V.eq1,AO,hy,hyg,hl,hyn,hyn2];simp only[AA,H5];simp[AD,hyn,hyn2];simp only[Aa,H4];simp[h19',h15',hc,BX,V.eqL,V.eq1,AO,hB2,hBg2,hl2,hyn,hyn2];simp[Hz,AD,AA,Hy,Hx,Hw,Hv,w1,w2,hyn,hyn2];exact hQ _ rfl rfl rfl rfl rfl rfl rfl rfl rfl rfl
   ·by_cases hl2:la <B2.length
    ·obtain⟨z,hz⟩:∃z,B2[la]?=some z:=⟨_,ATo hl2⟩;have hzg:B2[la]'hl2=z:=(ATp.1 hz).2;have hzn:¬(z.1=c.1∧z.2=c.2):=λh=>hB2 z hz (AU5 h.1 h.2);have hzn2:¬z.1=c.1∨¬z.2=c.2:=Decidable.not_and_iff_or_not.1 hzn;simp only[MV,AB,Aa,AE,H6];simp[f9,f10,f13,f14,f15,f17,f19,f21,f22,f23,f24,h17',h15',hc,BX,V.eqL,V.eq1,AO,hy,hyg,hl,hyn,hyn2];simp only[AA,H5];simp[AD,hyn,hyn2];simp only[Aa,H4];simp[h19',h15',hc,BX,V.eqL,V.eq1,AO,hz,hzg,hl2,hzn,hzn2,hyn,hyn2];simp[Hz,AD,AA,Hy,Hx,Hw,Hv,w1,w2,hyn,hyn2,hzn,hzn2];exact hQ _ rfl rfl rfl rfl rfl rfl rfl rfl rfl rfl
    ·simp only[MV,AB,Aa,AE,H6];simp[f9,f10,f13,f14,f15,f17,f19,f21,f22,f23,f24,h17',h15',hc,BX,V.eqL,V.eq1,AO,hy,hyg,hl,hyn,hyn2];simp only[AA,H5];simp[AD,hyn,hyn2];simp only[Aa,H4];simp[h19',h15',hc,BX,V.eqL,V.eq1,AO,hl2,hyn,hyn2];simp[Hz,AD,AA,Hy,Hx,Hw,Hv,w1,w2,hyn,hyn2];exact hQ _ rfl rfl rfl rfl rfl rfl rfl rfl rfl rfl
  ·rcases hla with ⟨rfl,hB2⟩|⟨rfl,hB2⟩
   ·obtain⟨hl2,hBg2⟩:=ATp.1 hB2;simp only[MV,AB,Aa,AE,H6];simp[f9,f10,f13,f14,f15,f17,f19,f21,f22,f23,f24,h17',h15',hc,BX,V.eqL,V.eq1,AO,hl];simp only[AA,H5];simp[AD];simp only[Aa,H4];simp[h19',h15',hc,BX,V.eqL,V.eq1,AO,hB2,hBg2,hl2];simp[Hz,AD,AA,Hy,Hx,Hw,Hv,w1,w2];exact hQ _ rfl rfl rfl rfl rfl rfl rfl rfl rfl rfl
   ·by_cases hl2:la <B2.length
    ·obtain⟨z,hz⟩:∃z,B2[la]?=some z:=⟨_,ATo hl2⟩;have hzg:B2[la]'hl2=z:=(ATp.1 hz).2;have hzn:¬(z.1=c.1∧z.2=c.2):=λh=>hB2 z hz (AU5 h.1 h.2);have hzn2:¬z.1=c.1∨¬z.2=c.2:=Decidable.not_and_iff_or_not.1 hzn;simp only[MV,AB,Aa,AE,H6];simp[f9,f10,f13,f14,f15,f17,f19,f21,f22,f23,f24,h17',h15',hc,BX,V.eqL,V.eq1,AO,hl];simp only[AA,H5];simp[AD];simp only[Aa,H4];simp[h19',h15',hc,BX,V.eqL,V.eq1,AO,hz,hzg,hl2,hzn,hzn2];simp[Hz,AD,AA,Hy,Hx,Hw,Hv,w1,w2,hzn,hzn2];exact hQ _ rfl rfl rfl rfl rfl rfl rfl rfl rfl rfl
    ·simp only[MV,AB,Aa,AE,H6];simp[f9,f10,f13,f14,f15,f17,f19,f21,f22,f23,f24,h17',h15',hc,BX,V.eqL,V.eq1,AO,hl];simp only[AA,H5];simp[AD];simp only[Aa,H4];simp[h19',h15',hc,BX,V.eqL,V.eq1,AO,hl2];simp[Hz,AD,AA,Hy,Hx,Hw,Hv,w1,w2];exact hQ _ rfl rfl rfl rfl rfl rfl rfl rfl rfl rfl
theorem l4c {ps:List V} {bs:List Bool} (hps:ps.length≤64) (hbs:bs.length=4096) (H:List Row) (hl:Low H) (hx:H[0]?=some (CN ps bs)) (t:Th) (ht:t.ok) (hte:thE t=0) (htk:t.kinds ps.length=true)
  (t13 t15 t17 t19:Nat) (h13:H[t13]?=some (.cells t.cells)) (first:Int) (own:List Rgt) (hon:own.length≤2^20) (hrd:∀r∈own,r.dates.length≤2^30) (A:List (Int×Int)) (hA:A.length≤2^20) (b1 b2:Int×Int→Bool)
  (hmono:∀c∈A,b1 c=true→b2 c=true) (hw:∀c∈A,Iw (isT ps.length bs) t own first c=b1 c)
  (has:∀c∈A,∀r∈own,r.file=c.1→Ks ps.length (CM r.claims c.2)) (q24:∀c∈A,∀r∈own,r.file=c.1→PX 24 [.list (r.claims.map Clm.V),.int .i64 c.2] [.list ((CM r.claims c.2).map F.V),.int .i64 0])
  (e0 e1 e2 e3 e4 e5 e6 e7 e9 e10 e11 e12:D) (h15:H[t15]?=some (.cells [e0,e1,e2,e3,e4,e5,e6,e7,.v (.list (A.map BX)),e9,e10,e11,e12]))
  (x0 x1 x2 x3 x4 x5 x6 x7 x9 x10 x11 x12:D) (h17:H[t17]?=some (.cells [x0,x1,x2,x3,x4,x5,x6,x7,.v (.list ((A.filter b1).map BX)),x9,x10,x11,x12]))
  (y0 y1 y2 y3 y4 y5 y6 y7 y9 y10 y11 y12:D) (h19:H[t19]?=some (.cells [y0,y1,y2,y3,y4,y5,y6,y7,.v (.list ((A.filter b2).map BX)),y9,y10,y11,y12])) (Q:AExit→St→Prop)
  (hQ:∀J' e,Lows J'→AH e 17= .ref t17 0→AH e 19= .ref t19 0→AH e 21= .v (.int .i64 ((A.filter b1).length:Nat))→AH e 22= .v (.int .i64 ((A.filter b2).length:Nat))→Q (.exit 0) ⟨e,H++J'⟩):
  awp Tryz.prog GLx (.loop uO) Q ⟨[(9,.ref 0 0),(10,.v (.list (own.map Rgt.V))),(13,.ref t13 0),(14,.v (.int .i64 first)),(15,.ref t15 0),(17,.ref t17 0),(19,.ref t19 0),(21,.v (.int .i64 (0:Nat))),(22,.v (.int .i64 (0:Nat))),(23,.v (.int .i64 (0:Nat)))],H⟩:=by
 refine Ae A.length (λi s=>∃J',Lows J'∧s.h=H++J'∧AH s.e 9= .ref 0 0∧AH s.e 10= .v (.list (own.map Rgt.V))∧AH s.e 13= .ref t13 0∧AH s.e 14= .v (.int .i64 first)∧AH s.e 15= .ref t15 0∧AH s.e 17= .ref t17 0∧AH s.e 19= .ref t19 0∧AH s.e 21= .v (.int .i64 (((A.take i).filter b1).length:Nat))∧AH s.e 22= .v (.int .i64 (((A.take i).filter b2).length:Nat))∧
   AH s.e 23= .v (.int .i64 i)) ⟨[],Lows.nil,by simp,rfl,rfl,rfl,rfl,rfl,rfl,rfl,rfl,rfl,rfl⟩ ?_
 rintro i ⟨se,sh⟩ hi ⟨J',hJ',rfl,f9,f10,f13,f14,f15,f17,f19,f21,f22,f23⟩;simp only at f9 f10 f13 f14 f15 f17 f19 f21 f22 f23;have h15':=λZ=>AS Z h15;rw[uN];simp only[AB,AA,AF,AE,ZF];simp[f9,f10,f13,f14,f15,f17,f19,f21,f22,f23,h15'];by_cases hil:i <A.length
 ·obtain⟨c,hc⟩:∃c,A[i]?=some c:=⟨_,ATo hil⟩;have hcm:=ATq hc;have w1:IntKind.i64.wrap ((i:Int)+1)=i+1:=AJ;obtain⟨hf1,hn1⟩:=Sr b1 A i c hc;obtain⟨hf2,hn2⟩:=Sr b2 A i c hc;have hle1:((A.take i).filter b1).length≤i:=by
   have:=AUi b1 (A.take i);rw[AUI]at this;omega
  have hle2:((A.take i).filter b2).length≤i:=by
   have:=AUi b2 (A.take i);rw[AUI]at this;omega
  have hm:=hmono c hcm;have hwc:=hw c hcm;rw[hn1,hn2];have hlo:=l4o hps hbs H hl hx t ht hte htk t13 t15 t17 t19 h13 first own hon hrd A i c hc (has c hcm) (q24 c hcm) e0 e1 e2 e3 e4 e5 e6 e7 e9 e10 e11 e12 h15 ((((A.take i).filter b1).length:Nat):Int) ((((A.take i).filter b2).length:Nat):Int) J' hJ';have hlt:=λJ Q hQ=>l4t H t13 t15 t17 t19 first own A (A.filter b1) (A.filter b2) i c hc e0 e1 e2 e3 e4 e5 e6 e7 e9 e10 e11 e12 h15 x0 x1 x2 x3 x4 x5 x6 x7 x9 x10 x11 x12 h17 y0 y1 y2 y3 y4 y5 y6 y7 y9 y10 y11 y12 h19 ((A.take i).filter b1).length ((A.take i).filter b2).length (by omega) (by omega) (b1 c) (b2 c) hm hf1 hf2 J Q hQ;rw[hwc]at hlo;generalize ((A.take i).filter b1).length=n at*;generalize ((A.take i).filter b2).length=la at*;generalize b1 c=B1 at*;generalize b2 c=B2 at*;rw[if_pos (by omega),AD];simp only[AA,ZD,ZC];simp;simp at hlo;refine hlo _ ?_;intro J2 hJ2 e g9 g10 g13 g14 g15 g17 g19 g21 g22 g23 g24;simp only[true_and,if_true];refine hlt J2 _ ?_ _ ?_ ?_ ?_ ?_ ?_ ?_ ?_ ?_ ?_ ?_ ?_
  ·intro e2 k9 k10 k13 k14 k15 k17 k19 k21 k22 k23;simp[AA,ZE,k9,k10,k13,k14,k15,k17,k19,k21,k22,k23,w1,hil];exact hJ2
  all_goals simp[AH,g9,g10,g13,g14,g15,g17,g19,g21,g22,g23,g24]
 ·have hi2:i=A.length:=by omega
  subst hi2;rw[if_neg (by omega),AM];rw[AUT]at f21 f22;refine hQ J' _ hJ' ?_ ?_ ?_ ?_<;>simp[f17,f19,f21,f22]
def c4M:AC:=(.seq (.seq (.reg ZJ [9,10,13,14,15,17,19,88]) (.cond (.t 88 false) (.seq (.reg zn [8]) .ret) .skip)) (.seq (.reg ZI [9,10,13,14,15,17,19,21]) (.seq (.reg ZH [9,10,13,14,15,17,19,21,22]) (.seq (.seq (.reg ZG [9,10,13,14,15,17,19,21,22,23]) (.block 0 (.loop uO))) (.seq (.reg ZA [8]) .ret)))))
theorem m4 {ps:List V} {bs:List Bool} (hps:ps.length≤64) (hbs:bs.length=4096) (h20:PX 20 [] [.bool true]) (G:List Row) (hG:G.length=6) (hl:Low G) (hx:G[0]?=some (CN ps bs)) (t:Th) (ht:t.ok) (hte:thE t=0) (htk:t.kinds ps.length=true)
  (first later:Int) (own rs:List Rgt) (hon:own.length≤2^20) (hrd:∀r∈own,r.dates.length≤2^30) (A:List (Int×Int)) (hA:A.length≤2^20) (b1 b2:Int×Int→Bool)
  (hmono:∀c∈A,b1 c=true→b2 c=true) (hw:∀c∈A,Iw (isT ps.length bs) t own first c=b1 c)
  (has:∀c∈A,∀r∈own,r.file=c.1→Ks ps.length (CM r.claims c.2)) (q24:∀c∈A,∀r∈own,r.file=c.1→PX 24 [.list (r.claims.map Clm.V),.int .i64 c.2] [.list ((CM r.claims c.2).map F.V),.int .i64 0])
  (Q:AExit→St→Prop) (hQ:∀e J,AH e 8= .v (.bool true)→Q .ret ⟨e,J⟩):
  awp Tryz.prog GLx c4M Q ⟨[(9,.ref 0 0),(10,.v (.list (own.map Rgt.V))),(13,.ref 6 0),(14,.v (.int .i64 first)),(15,.ref 7 0),(16,.v (.int .i64 0)),(17,.ref 8 0),(18,.v (.int .i64 0)),(19,.ref 9 0),(20,.v (.int .i64 0))],
   G++[.cells t.cells,.cells ((BS 1 0 t rs A).map .v),.cells ((BS 3 first t rs (A.filter b1)).map .v),.cells ((BS 3 later t rs (A.filter b2)).map .v)]⟩:=by
 have hlow:Low (G++[.cells t.cells,.cells ((BS 1 0 t rs A).map .v),.cells ((BS 3 first t rs (A.filter b1)).map .v),.cells ((BS 3 later t rs (A.filter b2)).map .v)]):=hl.lows (by
  intro row hrow n;simp only[ATt,AT2,or_false]at hrow;rcases hrow with rfl|rfl|rfl|rfl
  ·exact Hb n t
  ·exact D2 n _ _ _ _ _
  ·exact D2 n _ _ _ _ _
  ·exact D2 n _ _ _ _ _)
 have hloop:=λh13 e0 e1 e2 e3 e4 e5 e6 e7 e9 e10 e11 e12 h15 x0 x1 x2 x3 x4 x5 x6 x7 x9 x10 x11 x12 h17 y0 y1 y2 y3 y4 y5 y6 y7 y9 y10 y11 y12 h19 Q=>l4c hps hbs _ hlow (AS _ hx) t ht hte htk 6 7 8 9 h13 first own hon hrd A hA b1 b2 hmono hw has q24 e0 e1 e2 e3 e4 e5 e6 e7 e9 e10 e11 e12 h15 x0 x1 x2 x3 x4 x5 x6 x7 x9 x10 x11 x12 h17 y0 y1 y2 y3 y4 y5 y6 y7 y9 y10 y11 y12 h19 Q;have g13:(G++[.cells t.cells,.cells ((BS 1 0 t rs A).map .v),.cells ((BS 3 first t rs (A.filter b1)).map .v),.cells ((BS 3 later t rs (A.filter b2)).map .v)])[6]?=some (.cells t.cells):=by
  rw[Av G _ 6 0 (by omega)];rfl
 have g15:(G++[.cells t.cells,.cells ((BS 1 0 t rs A).map .v),.cells ((BS 3 first t rs (A.filter b1)).map .v),.cells ((BS 3 later t rs (A.filter b2)).map .v)])[7]?=some (.cells ((BS 1 0 t rs A).map .v)):=by
  rw[Av G _ 7 1 (by omega)];rfl
 have g17:∀Z,(G++[.cells t.cells,.cells ((BS 1 0 t rs A).map .v),.cells ((BS 3 first t rs (A.filter b1)).map .v),.cells ((BS 3 later t rs (A.filter b2)).map .v)]++Z)[8]?=some (.cells ((BS 3 first t rs (A.filter b1)).map .v)):=λZ=>by
  rw[AT1,Av G _ 8 2 (by omega)];rfl
 have g19:∀Z,(G++[.cells t.cells,.cells ((BS 1 0 t rs A).map .v),.cells ((BS 3 first t rs (A.filter b1)).map .v),.cells ((BS 3 later t rs (A.filter b2)).map .v)]++Z)[9]?=some (.cells ((BS 3 later t rs (A.filter b2)).map .v)):=λZ=>by
  rw[AT1,Av G _ 9 3 (by omega)];rfl
 have hl3:=λQ=>hloop g13 _ _ _ _ _ _ _ _ _ _ _ _ g15 _ _ _ _ _ _ _ _ _ _ _ _ (by have:=g17 [];rwa [AUh]at this) _ _ _ _ _ _ _ _ _ _ _ _ (by have:=g19 [];rwa [AUh]at this) Q;generalize hH:G++[.cells t.cells,.cells ((BS 1 0 t rs A).map .v),.cells ((BS 3 first t rs (A.filter b1)).map .v),.cells ((BS 3 later t rs (A.filter b2)).map .v)]=H at*;have q20:=h20.fsp;simp at q20;unfold c4M;simp only[AB,AA,AE,AF,ZJ];simp[AD,ZI,ZH,ZG];simp at hl3;refine hl3 _ ?_;intro J' e hJ' f17 f19 f21 f22;have g17':=g17 J';have g19':=g19 J';simp only[BS]at g17' g19';simp at g17' g19';simp only[AA,ZA];simp[f17,f19,f21,f22,g17',g19'];refine⟨_,_,q20 _,?_⟩;simp[AG];exact hQ _ _ rfl
theorem ALq:c4=(.seq (.reg AD4 [0,1,2,3]) (.seq (.reg AD3 [0,1,2,3,9]) (.seq (.reg AD2 [1,2,3,9,10]) (.seq (.reg AD1 [1,2,3,9,10,11,12]) (.seq (.seq (.reg AD0 [1,2,3,9,10,11,50]) (.cond (.t 50 false) (.seq (.reg ALo [8]) .ret) .skip)) (.seq (.reg ADz [2,3,9,10,11,13]) (.seq (.reg ADy [3,9,10,11,13,14]) (.seq (.reg ADx [3,9,10,11,13,14,15,16]) (.seq (.reg ADw [3,9,10,11,13,14,15,16,17,18]) (.seq (.regA ZK [9,10,13,14,15,16,17,18,19,20] [[],[],[],[],[3],[2,3,4],[0,1,2,3,4,5],[0,1,2,3,4,5,6],[0,1,2,3,4,5,6,7],[0,1,2,3,4,5,6,7],[],[0,1,2,3,4,5,6,7,8,10],[0,1,2,3,4,5,6,7,8,9,10,11]] (.take 0 (.take 1 (.take 2 (.take 3 (.take 4 (.take 5 (.pick (.alt 6 (.take 7 (.take 8 (.take 9 (.take 10 (.take 11 (.take 12 .done)))))) (.alt 10 (.take 6 (.take 7 (.take 8 (.take 9 (.take 11 (.take 12 .done)))))) .none)))))))))) c4M)))))))))):=rfl
theorem p4 {ps:List V} {bs:List Bool} (hps:ps.length≤64) (hbs:bs.length=4096) (h20:PX 20 [] [.bool true]) (h9:FX 9 [] [] [.ref 0 0] [CN ps bs]) (l l2:List Int) (d2 d3:Int)
  (own:List Rgt) (G5:List Row) (hG:G5.length=5) (hl:Low (CN ps bs::G5)) (t:Th) (ht:t.ok) (hte:thE t=0) (htk:t.kinds ps.length=true)
  (h10:PX 10 [AL .i64 l] [.list (own.map Rgt.V)]) (h14:PX 14 [.list (own.map Rgt.V)] [.list (own.map Rgt.V)])
  (h13:FX 13 [.ref 0 0,.v (.list (own.map Rgt.V))] [CN ps bs] [.ref 5 0,.v (.int .i64 0)] (CN ps bs::G5)) (h21:PX 21 [AL .i64 l2,.int .i64 6,.int .i64 3] [t.V])
  (rs:List Rgt) (hon:own.length≤2^20) (hrd:∀r∈own,r.dates.length≤2^30) (A:List (Int×Int)) (hA:A.length≤2^20) (b1 b2:Int×Int→Bool)
  (q22:∀Z,Lows Z→FX 22 [.ref 5 0,.v t.V] (CN ps bs::G5++Z) [.v (DS 1 0 t rs A),.v (.int .i64 0)] (CN ps bs::G5++Z))
  (q23:∀Z,Lows Z→FX 23 [.ref 5 0,.v t.V,.v (.int .i64 (35990+A8 d2 80))] (CN ps bs::G5++Z) [.v (DS 3 (35990+A8 d2 80) t rs (A.filter b1)),.v (.int .i64 0)] (CN ps bs::G5++Z))
  (q23':∀Z,Lows Z→FX 23 [.ref 5 0,.v t.V,.v (.int .i64 (35990+A8 d2 80+A8 d3 60))] (CN ps bs::G5++Z) [.v (DS 3 (35990+A8 d2 80+A8 d3 60) t rs (A.filter b2)),.v (.int .i64 0)] (CN ps bs::G5++Z))
  (hmono:∀c∈A,b1 c=true→b2 c=true) (hw:∀c∈A,Iw (isT ps.length bs) t own (35990+A8 d2 80) c=b1 c)
  (has:∀c∈A,∀r∈own,r.file=c.1→Ks ps.length (CM r.claims c.2)) (q24:∀c∈A,∀r∈own,r.file=c.1→PX 24 [.list (r.claims.map Clm.V),.int .i64 c.2] [.list ((CM r.claims c.2).map F.V),.int .i64 0]):
  PX 4 [AL .i64 l,AL .i64 l2,.int .i64 d2,.int .i64 d3] [.bool true]:=by
 refine AK k4 rfl ?_;have p11a:=(p11 d2 80 (by decide)).fsp;have p11b:=p11 d3 60 (by decide);have hb1:=Ew d2 80 (by decide);have hb2:=Ew d3 60 (by decide);have hm:=λQ=>m4 hps hbs h20 (CN ps bs::G5) (by simp[hG]) hl (by rfl) t ht hte htk (35990+A8 d2 80) (35990+A8 d2 80+A8 d3 60) own rs hon hrd A hA b1 b2 hmono hw has q24 Q;have h10':=h10.fsp;have h14':=h14.fsp;have h21':=h21.fsp;have q22a:=q22 [.cells t.cells] (λrow hrow n=>by rw[ATy.1 hrow];exact Hb n t);have lE:∀(k d:Int) (B:List (Int×Int)),∀n,Row.low n (.cells ((BS k d t rs B).map .v))=true:=λk d B n=>D2 n _ _ _ _ _;have q23a:=q23 [.cells t.cells,.cells ((BS 1 0 t rs A).map .v)] (λrow hrow n=>by
  simp only[ATt,AT2,or_false]at hrow;rcases hrow with rfl|rfl
  ·exact Hb n t
  ·exact lE _ _ _ n)
 have q23b:=q23' [.cells t.cells,.cells ((BS 1 0 t rs A).map .v),.cells ((BS 3 (35990+A8 d2 80) t rs (A.filter b1)).map .v)] (λrow hrow n=>by
  simp only[ATt,AT2,or_false]at hrow;rcases hrow with rfl|rfl|rfl
  ·exact Hb n t
  ·exact lE _ _ _ n
  ·exact lE _ _ _ n)
 have q23c:=q23' [.cells t.cells,.cells ((BS 1 0 t rs A).map .v),.cells ((BS 3 (35990+A8 d2 80) t rs (A.filter b1)).map .v),.cells [.v (.int .i64 0),.v (.int .i64 0),.v (.int .i64 0),.v (.int .i64 0),.own 3 1 [],.own 171 3 [],.own 58 3 [],.own 74 8 [],.own 76 2 [],.own 3 1 [],.own 47 1 [],.own 47 1 [],.own 5 1 []]] (λrow hrow n=>by
  simp only[ATt,AT2,or_false]at hrow;rcases hrow with rfl|rfl|rfl|rfl
  ·exact Hb n t
  ·exact lE _ _ _ n
  ·exact lE _ _ _ n
  ·rfl)
 obtain⟨first,hfi⟩:∃f,35990+A8 d2 80=f:=⟨_,rfl⟩;have w1:IntKind.i64.wrap (35990+A8 d2 80)=first:=by rw[AJ];exact hfi
 rw[hfi]at hm q23a q23b q23c;obtain⟨later,hla⟩:∃f,first+A8 d3 60=f:=⟨_,rfl⟩;have w2:IntKind.i64.wrap (first+A8 d3 60)=later:=by rw[AJ];exact hla
 rw[hla]at hm q23b q23c;clear q22 q23 q23' h10 h14 h21 lE hw has q24 hmono hte htk ht;obtain⟨cs,vs,pa⟩:=t;simp only[DS,BS,Th.V_eq,Th.cells,Th.cs,Th.vs,Th.ps,AL]at*;simp at h10' h14' h21' p11a q22a q23a q23b q23c;rw[ALq];simp only[AB,AA,AE,AD4,AD3,AY];simp[AL];refine⟨_,_,h9,?_⟩;simp;simp only[AA,AD2];simp;refine⟨_,_,h10' _,?_⟩;simp;refine⟨_,_,h14' _,?_⟩;simp;simp only[AA,AD1];simp;refine⟨_,_,h13,?_⟩;simp;simp[AD0,AD];simp only[AA,ADz];simp;refine⟨_,_,h21' _,?_⟩;simp[AO];simp only[AA,ADy];simp;refine⟨_,_,p11a _,?_⟩;simp[w1];simp only[AA,ADx];simp[hG];refine⟨_,_,q22a,?_⟩;simp[AO];simp only[AA,ADw];simp[hG];refine⟨_,_,q23a,?_⟩;simp[AO];rw[Bq];refine Bm _ (λs hs=>⟨s,.inl rfl,hs⟩) ?_;simp only[ZK];simp[hG];refine⟨_,_,⟨rfl,rfl⟩,_,p11b,?_⟩;simp[w2];simp at hm;refine⟨?_,?_⟩
 ·refine⟨_,_,q23b,?_⟩;simp[AO,hG];refine hm _ ?_;intro e J h8;simp[c4R,h8]
 ·refine⟨_,_,q23c,?_⟩;simp[AO,hG];refine hm _ ?_;intro e J h8;simp[c4R,h8]
def pgG (f:Nat→Th×Nat) (len:Nat) (dd:Int) (n at_:Nat):List Th×Nat:=if 1 <dd then Cc f len n at_ else ([],at_)
theorem ARD (l:List Int) (f:Nat→Th×Nat) (dd:Int) (hdd:1≤dd∧dd≤9) (hB:∀a,(f a).2≤a+100) (M:Nat) (hM:M≤10000) (hf:1 <dd→∀a,a≤M+500→PX 60 [AL .i64 l,.int .i64 a,.int .i64 6,.int .i64 (dd-1)] [(f a).1.V,.int .i64 (f a).2])
  (many at_:Nat) (hm:many≤3) (ha:at_≤M+5) (R0:Row) (C W:D) (J0:List Row) (Q:AExit→St→Prop) (res:List Th×Nat) (hres:pgG f l.length dd many at_=res)
  (hQ:∀e J,AH e 8= .ref 0 0→AH e 10= .ref 1 0→AH e 1= .v (.int .i64 res.2)→Q (.exit 4) ⟨e,R0:: .cells [C,W,.own 58 3 (res.1.map Th.V)]::J⟩):
  awp Tryz.prog GLx (.loop YY) Q ⟨[(0,.v (AL .i64 l)),(1,.v (.int .i64 at_)),(2,.v (.int .i64 6)),(3,.v (.int .i64 dd)),(8,.ref 0 0),(10,.ref 1 0),(16,.v (.int .i64 many)),(17,.v (.int .i64 (0:Nat)))],R0:: .cells [C,W,.own 58 3 []]::J0⟩:=by
 refine Ae many (λk s=>∃(J:List Row) (a:Nat) (done:List Th),s=⟨[(0,.v (AL .i64 l)),(1,.v (.int .i64 a)),(2,.v (.int .i64 6)),(3,.v (.int .i64 dd)),(8,.ref 0 0),(10,.ref 1 0),(16,.v (.int .i64 many)),(17,.v (.int .i64 k))],
   R0:: .cells [C,W,.own 58 3 (done.map Th.V)]::J⟩∧a≤M+5+100*k∧done.length≤k∧(done++(pgG f l.length dd (many-k) a).1,(pgG f l.length dd (many-k) a).2)=res) ⟨J0,at_,[],by simp,by omega,by simp,by simpa using hres⟩ ?_
 rintro k s hk ⟨J,a,done,rfl,ha,hd,hr⟩;have w1:IntKind.i64.wrap (dd-1)=dd-1:=AJ;have w2:IntKind.i64.wrap ((k:Int)+1)=k+1:=AJ;have hstop:pgG f l.length dd (many-k) a=([],a)→Q (.exit 4) ⟨[(0,.v (AL .i64 l)),(1,.v (.int .i64 a)),(2,.v (.int .i64 6)),(3,.v (.int .i64 dd)),(8,.ref 0 0),(10,.ref 1 0),(16,.v (.int .i64 many)),(17,.v (.int .i64 k)),(95,.v (.bool false))],
   R0:: .cells [C,W,.own 58 3 (done.map Th.V)]::J⟩:=by
  intro h0;rw[h0]at hr;simp only[AUh]at hr;subst hr;exact hQ _ J rfl rfl rfl
 simp only[YY,AB,AA,AF,AE,YP];simp[AL]at hstop ⊢;by_cases h1:k <many
 ·have h1':(k:Int) <many:=by omega
  have e1:many-k=(many-(k+1))+1:=by omega
  by_cases h2:1 <dd
  ·by_cases h3:a <l.length
   ·have h3':(a:Int) <l.length:=by omega
    have q:=(hf h2 a (by omega)).fsp;have hb:=hB a;have hroom:Ah (done.length+1) 72=true:=by simp[Ah];omega
    rw[e1,pgG,if_pos h2,Cc,if_pos h3]at hr;generalize (f a).2=a2 at*;generalize (f a).1=p at*;obtain⟨pc,pv,pp⟩:=p;simp[AL,Th.V_eq]at q;simp[h1,h2,h3,AD];simp only[AA,YN];simp[w1,AL];refine⟨_,_,q _,?_⟩;simp[AO];simp only[AA,YM,YL,YO];simp[hroom,w2,h1];refine⟨_,a2,done++[Th.mk pc pv pp],⟨rfl,by simp[Th.V_eq,AL],rfl⟩,by omega,by simp;omega,?_⟩;rw[←hr,pgG,if_pos h2];simp
   ·have h0:pgG f l.length dd (many-k) a=([],a):=by rw[e1,pgG,if_pos h2,Cc,if_neg h3]
    simp[h1,h2,h3,AM];exact hstop h0
  ·have h0:pgG f l.length dd (many-k) a=([],a):=by rw[pgG,if_neg h2]
   simp[h1,h2,AM];exact hstop h0
 ·have h0:pgG f l.length dd (many-k) a=([],a):=by
   rw[show many-k=0 by omega,pgG];split<;>simp[Cc]
  simp[h1,AM];exact⟨by omega,hstop h0⟩
set_option maxHeartbeats 2000000 in
theorem ARC (l:List Int) (hl:∀n∈l,i64 n) (at_:Nat) (ha:at_≤20000) (x2 x3:V) (R0:Row) (C:D) (J0:List Row) (Q:AExit→St→Prop)
  (hQ:∀J,Q (.exit 2) ⟨[(0,.v (AL .i64 l)),(1,.v (.int .i64 (at_+3:Nat))),(2,.v x2),(3,.v x3),(8,.ref 0 0),(10,.ref 1 0),(13,.v (.int .i64 3)),(45,.v (.bool false))],R0:: .cells [C,.own 171 3 ((Cu l at_ 3).map Val.V),.own 58 3 []]::J⟩):
  awp Tryz.prog GLx (.loop YZ) Q ⟨[(0,.v (AL .i64 l)),(1,.v (.int .i64 at_)),(2,.v x2),(3,.v x3),(8,.ref 0 0),(10,.ref 1 0),(13,.v (.int .i64 (0:Nat)))],R0:: .cells [C,.own 171 3 [],.own 58 3 []]::J0⟩:=by
 refine Ae 3 (λk s=>∃J:List Row,s=⟨[(0,.v (AL .i64 l)),(1,.v (.int .i64 (at_+k:Nat))),(2,.v x2),(3,.v x3),(8,.ref 0 0),(10,.ref 1 0),(13,.v (.int .i64 k))],R0:: .cells [C,.own 171 3 ((Cu l at_ k).map Val.V),.own 58 3 []]::J⟩) ⟨J0,by simp[Cu]⟩ ?_;rintro k s hk ⟨J,rfl⟩;simp only[YZ,AB,AA,AF,AE,YX];simp[AL];by_cases h1:k <3
 ·have h1':(k:Int) <3:=by omega
  have w1:IntKind.i64.wrap ((k:Int)+1)=k+1:=AJ;have w2:IntKind.i64.wrap (((at_:Int)+k)+1)=at_+(k+1):=by rw[AJ];omega
  have q:=(p47 l ((at_+k:Nat):Int) 1048576 (by decide)).fsp;have hnn:=Nu l hl ((at_+k:Nat):Int) 1048576;have hs:Cu l at_ (k+1)=Cu l at_ k++(match Lt l at_ k with|some x=>[x]|none=>[]):=by
   unfold Cu;rw[AUk,List.filterMap_append]
   congr 1
   simp only[List.filterMap_cons,List.filterMap_nil];cases Lt l at_ k<;>rfl
  have hlen:(Cu l at_ k).length≤k:=by
   have:=AVh (Lt l at_) (List.range k);simpa[Cu]using this
  have hroom:Ah ((Cu l at_ k).length+1) 24=true:=by simp[Ah];omega
  rw[hs];unfold Lt;simp only;generalize Cu l at_ k=L at*;have hle:=Dh l ((at_+k:Nat):Int) 1048576 (by decide);generalize Ab l ((at_+k:Nat):Int) 1048576=n at*;have hq1:0≤n.tdiv 3:=Int.tdiv_nonneg hnn (by decide);have hq2:n.tdiv 3≤n:=Int.tdiv_le_self _ hnn;have w3:IntKind.i64.wrap (n.tdiv 3)=n.tdiv 3:=AJ;rw[w3];have hm0:0≤(n.tdiv 3).tmod 8:=AWL _ hq1;have hm1:(n.tdiv 3).tmod 8 <8:=AVg _ (by decide);simp[AL]at q;simp[h1',AD];simp only[AA,YW];simp;refine⟨_,_,q _,?_⟩;simp only[AA,AE,YV];by_cases h3:n.tmod 3=0
  ·have:(n.tdiv 3).tmod 8=0∨(n.tdiv 3).tmod 8=1∨(n.tdiv 3).tmod 8=2∨(n.tdiv 3).tmod 8=3∨(n.tdiv 3).tmod 8=4∨(n.tdiv 3).tmod 8=5∨(n.tdiv 3).tmod 8=6∨(n.tdiv 3).tmod 8=7:=by omega
   rcases this with e|e|e|e|e|e|e|e<;>
    simp[h3,AB,AA,YU,w3,e,V.getI,AO,YT,Pj,Pk,hroom,w1,w2,h1,Ng,Val.V]
  ·simp[h3,AD,AA,Pj,Pk,w1,w2,h1]
 ·have hk3:k=3:=by omega
  subst hk3;simp[AM];have:=hQ J;simpa[AL]using this
theorem ARE (n:Int) (d0 d1 d3:V) (R0:Row) (Q:AExit→St→Prop)
  (hQ:Q (.exit 0) ⟨[(0,.v d0),(1,.v d1),(2,.v (.int .i64 6)),(3,.v d3),(8,.ref 0 0),(10,.ref 1 0),(11,.v (.int .i64 n)),(12,.v (.int .i64 6)),(28,.v (.bool false))],[R0,.cells [.own 3 1 ((If n).map (.int .i64)),.own 171 3 [],.own 58 3 []]]⟩):
  awp Tryz.prog GLx (.loop Ya) Q ⟨[(0,.v d0),(1,.v d1),(2,.v (.int .i64 6)),(3,.v d3),(8,.ref 0 0),(10,.ref 1 0),(11,.v (.int .i64 n)),(12,.v (.int .i64 (0:Nat)))],[R0,.cells [.own 3 1 [],.own 171 3 [],.own 58 3 []]]⟩:=by
 refine Ac 6 (λk=>⟨[(0,.v d0),(1,.v d1),(2,.v (.int .i64 6)),(3,.v d3),(8,.ref 0 0),(10,.ref 1 0),(11,.v (.int .i64 n)),(12,.v (.int .i64 k))],
  [R0,.cells [.own 3 1 ((((List.range k).filter λc=>(n.fdiv (2^(min c IntKind.i64.bits))).tmod 3==1).map λ(c:Nat)=>(c:Int)).map (.int .i64)),.own 171 3 [],.own 58 3 []]]⟩) (by simp) ?_
 intro k hk;simp only[Ya,AB,AA,AF,AE,yu];simp;by_cases h1:k <6
 ·have h1':(k:Int) <6:=by omega
  have w1:IntKind.i64.wrap ((k:Int)+1)=k+1:=AJ;have t1:(k:Int).tmod 20=k:=Int.tmod_eq_of_lt (by omega) (by omega);have w2:IntKind.u64.wrap (k:Int)=k:=Bg (by omega) (by omega);have hs:(List.range (k+1)).filter (λc=>(n.fdiv (2^(min c IntKind.i64.bits))).tmod 3==1)=(List.range k).filter (λc=>(n.fdiv (2^(min c IntKind.i64.bits))).tmod 3==1)++(if (n.fdiv (2^(min k IntKind.i64.bits))).tmod 3==1 then [k] else []):=by
   rw[AUk,AVO];simp only[AVP,AVy]
  have hlen:((List.range k).filter (λc=>(n.fdiv (2^(min c IntKind.i64.bits))).tmod 3==1)).length≤k:=by
   have:=AUi (λc=>(n.fdiv (2^(min c IntKind.i64.bits))).tmod 3==1) (List.range k);simpa using this
  rw[hs];generalize (List.range k).filter (λc=>(n.fdiv (2^(min c IntKind.i64.bits))).tmod 3==1)=L at*;have hroom:Ah (L.length+1) 8=true:=by simp[Ah];omega
  simp[h1',AD];simp only[AA,AE,yt];simp[t1,w2];by_cases h2:(n.fdiv (2^(min k IntKind.i64.bits))).tmod 3=1
  ·simp[h2,AA,yr,hroom,AO,YJ,w1,h1]
  ·simp[h2,AD,AA,YJ,w1,h1]
 ·have hk6:k=6:=by omega
  subst hk6;simp[AM];simpa[If]using hQ
theorem ACh (l:List Int) (hl:∀n∈l,i64 n) (f:Nat→Th×Nat) (dd:Int) (hdd:1≤dd∧dd≤9) (hB:∀a,(f a).2≤a+100) (M:Nat) (hM:M≤10000) (hf:1 <dd→∀a,a≤M+500→PX 60 [AL .i64 l,.int .i64 a,.int .i64 6,.int .i64 (dd-1)] [(f a).1.V,.int .i64 (f a).2])
  (at_:Nat) (ha:at_≤M) (res:List Th×Nat) (hres:pgG f l.length dd (Ab l ((at_+4:Nat):Int) 4).toNat (at_+5)=res):
  PX 60 [AL .i64 l,.int .i64 at_,.int .i64 6,.int .i64 dd] [(Th.mk (If (Ab l at_ 1048576)) (Cu l (at_+1) 3) res.1).V,.int .i64 res.2]:=by
 refine AK k60 rfl ?_;have q1:=(p47 l at_ 1048576 (by decide)).fsp;have q2:=(p47 l ((at_+4:Nat):Int) 4 (by decide)).fsp;have hnn:=Nu l hl ((at_+4:Nat):Int) 4;have hm4:=N0 l ((at_+4:Nat):Int);have hm:((Ab l ((at_+4:Nat):Int) 4).toNat:Int)=Ab l ((at_+4:Nat):Int) 4:=AWN hnn;have w1:IntKind.i64.wrap ((at_:Int)+1)=(at_+1:Nat):=by rw[AJ];omega
 have w2:IntKind.i64.wrap ((at_:Int)+1+3+1)=(at_+5:Nat):=by rw[AJ];omega
 have hc:=λR0 Q=>ARE (Ab l at_ 1048576) (AL .i64 l) (.int .i64 (at_+1:Nat)) (.int .i64 dd) R0 Q;have hv:=λR0 C J Q=>ARC l hl (at_+1) (by omega) (.int .i64 6) (.int .i64 dd) R0 C J Q;have hp:=λR0 C W J Q=>ARD l f dd hdd hB M hM hf (Ab l ((at_+4:Nat):Int) 4).toNat (at_+5) hm4 (by omega) R0 C W J Q res hres;rw[hm]at hp;generalize If (Ab l at_ 1048576)=C at*;generalize Ab l ((at_+4:Nat):Int) 4=many at*;generalize Ab l at_ 1048576=n at*;generalize Cu l (at_+1) 3=W at*;simp[AL]at q1 q2 hc hv hp;simp only[c60,AB,AA,AF,yz,yy,yx,AY];simp[AL,AO];refine⟨_,_,q1 _,?_⟩;simp[yw,yv,w1];refine hc _ _ ?_;simp[yq];refine hv _ _ _ _ ?_;intro J;simp[YS];have e4:((at_:Int)+1+3)=(at_:Int)+4:=by omega
 rw[e4];refine⟨_,_,q2 _,?_⟩;simp[YR,YQ];rw[e4]at w2;simp at w2;rw[w2];refine hp _ _ _ _ _ ?_;intro e J' h8 h10 h1;simp[AB,AA,YK,h8,h10,h1,AO,AG,ALg,Th.V_eq,AL,D.vs?,D.v?]
theorem V1 (l:List Int) (d:Nat) (hd:d≤2) (a:Nat):(thG l d a).2≤a+100:=by
 have:=V0 l d a;have h2:4^d≤4^2:=AWC (by decide) hd;have h3:(4:Nat)^2=16:=by decide
 omega
theorem AIA (l:List Int) (hl:∀n∈l,i64 n) (at_:Nat) (ha:at_≤1500):PX 60 [AL .i64 l,.int .i64 at_,.int .i64 6,.int .i64 1] [(thG l 0 at_).1.V,.int .i64 (thG l 0 at_).2]:=
 ACh l hl (thG l 0) 1 (by decide) (V1 l 0 (by decide)) 1500 (by decide) (λh=>by omega) at_ ha ([],at_+5) (by rw[pgG,if_neg (by decide)])
theorem AH9 (l:List Int) (hl:∀n∈l,i64 n) (at_:Nat) (ha:at_≤1000):PX 60 [AL .i64 l,.int .i64 at_,.int .i64 6,.int .i64 2] [(thG l 1 at_).1.V,.int .i64 (thG l 1 at_).2]:=
 ACh l hl (thG l 0) 2 (by decide) (V1 l 0 (by decide)) 1000 (by decide) (λ_ a h=>AIA l hl a h) at_ ha _ (by rw[pgG,if_pos (by decide)])
theorem AH8 (l:List Int) (hl:∀n∈l,i64 n) (at_:Nat) (ha:at_≤500):PX 60 [AL .i64 l,.int .i64 at_,.int .i64 6,.int .i64 3] [(thG l 2 at_).1.V,.int .i64 (thG l 2 at_).2]:=
 ACh l hl (thG l 1) 3 (by decide) (V1 l 1 (by decide)) 500 (by decide) (λ_ a h=>AH9 l hl a h) at_ ha _ (by rw[pgG,if_pos (by decide)])
def Bt (l:List Int):Th:=(thG l 2 0).1
theorem p21 (l:List Int) (hl:∀n∈l,i64 n):PX 21 [AL .i64 l,.int .i64 6,.int .i64 3] [(Bt l).V]:=by
 refine AK k21 rfl ?_;have q:=(AH8 l hl 0 (by decide)).fsp;unfold Bt;generalize (thG l 2 0).2=m at*;generalize (thG l 2 0).1=t at*;obtain⟨cs,vs,ps⟩:=t;simp[AL,Th.V_eq]at q;simp only[c21,AB,AA,ABD,ABC,AY];simp[AL,Th.V_eq];refine⟨_,_,q _,?_⟩;simp[AO,ABB,AG,ANh,D.vs?,D.v?]
def I6:Int→Int→Bool:=isT ps6.length bs6
def IG (l l2:List Int):List (Int×Int):=BZ I6 (Bt l2) (Dk (Ad l))
def On (l l2:List Int) (day:Int) (c:Int×Int):Bool:=Is I6 (Bt l2) (I7 (Dk (Ad l)) c.1) c.2 day
section
variable (l l2:List Int)
theorem Dx {r:Rgt} (h:r∈Dk (Ad l)):r∈Ad l:=(IK (C8 l)).mem_iff.1 h
theorem Da:(Ad l).length≤4:=by
 have h1:=AUi At ((List.range (Ab l 0 5).toNat).map (CR l));have h2:=Dh l 0 5 (by decide);rw[AT9,AVw]at h1;unfold Ad;omega
theorem HJ:(Dk (Ad l)).length≤4:=by rw[(IK (C8 l)).length_eq];exact Da l
theorem VE:∀r∈Dk (Ad l),PX 113 [AL .u8 (Bx r)] [r.V,.int .i64 0]:=by
 intro r hr;have hm:=Dx l hr;have ht:=CC hm;obtain⟨_,_,hf⟩:=DZ hm;have hc:=C4 hm;exact AQ0 r (ht.ok (by decide)) hf hc.z (by have:=hc.n;omega) (Ja ht (by decide)) (Ws ht (by decide))
theorem O8:∀r∈Dk (Ad l),∀i:Int,0≤i→i <r.claims.length→PX 274 [.list (r.claims.map Clm.V),.int .i64 i] [(CF r.claims i).V,.int .i64 0]:=by
 intro r hr i h0 hi;obtain⟨k,rfl⟩:∃k:Nat,i=k:=⟨i.toNat,by omega⟩;exact AIM (C4 (Dx l hr)) k (by omega)
theorem AH5:∀r∈Ad l,∀i:Int,0≤i→i <r.claims.length→PX 24 [.list (r.claims.map Clm.V),.int .i64 i] [.list ((CM r.claims i).map F.V),.int .i64 0]:=by
 intro r hr i h0 hi;obtain⟨k,rfl⟩:∃k:Nat,i=k:=⟨i.toNat,by omega⟩;exact APu (C4 hr) k (by omega)
theorem s9:∀r∈Ad l,∀i:Int,0≤i→i <r.claims.length→Ks 6 (CM r.claims i):=by
 intro r hr i h0 hi;obtain⟨k,rfl⟩:∃k:Nat,i=k:=⟨i.toNat,by omega⟩;exact(C4 hr).alts k (by omega)
theorem Lz:ps6.length=6:=rfl
theorem DX:(Bt l2).good:=Jm l2 2 0
theorem VD (Z:List Row) (hZ:Low (G6 (Ad l)++Z)):FX 185 [.ref 0 0,.v (.list ((Dk (Ad l)).map Rgt.V)),.v (Bt l2).V] (G6 (Ad l)++Z) [.own 76 2 ((IG l l2).map BX),.v (.int .i64 0)] (G6 (Ad l)++Z):=
 AQW (ps:=ps6) (bs:=bs6) (by rw[Lz];decide) NW _ 0 rfl hZ (Bt l2) (DX l2).ok (Lu l2 0) (DX l2).kd (Dk (Ad l))
  (λr hr=>(C4 (Dx l hr)).fine (by have:=(CC (Dx l hr)).lb;omega)) (by have:=HJ l;omega) (λr hr=>by have:=(C4 (Dx l hr)).n;omega) (O8 l)
theorem Ux:(IG l l2).length≤2^20:=by
 have:=JL I6 (Bt l2) 3 (Dk (Ad l)) λr hr=>(C4 (Dx l hr)).n;have h4:=HJ l;unfold IG;omega
theorem WL (day:Int) (c0:List (Int×Int)):∀c∈IG l l2,∀Z,Low (G6 (Ad l)++Z)→FX 186 [.ref 0 0,.v (DS 3 day (Bt l2) (Dk (Ad l)) c0),.v (BX c)] (G6 (Ad l)++Z) [.v (.bool (On l l2 day c)),.v (.int .i64 0)] (G6 (Ad l)++Z):=by
 rintro⟨f,i⟩ hc Z hZ;obtain⟨r,hr,hrf,h0,hi⟩:=GG hc;simp only at hrf h0 hi;subst hrf;have hm:=Dx l hr;have hfind:=Es (Lw (C8 l)) hr;have hfr:I7 (Dk (Ad l)) r.file=r:=FD (Lw (C8 l)) hr;have q:=AQV (c0:=c0) (ps:=ps6) (bs:=bs6) (by rw[Lz];decide) NW (G6 (Ad l)++Z) 0 rfl hZ (Bt l2) (DX l2).ok (Lu l2 0) (DX l2).kd 3 day (Dk (Ad l)) (by have:=HJ l;omega) r r.file i hfind
  (by have:=(CC hm).ld;omega) (s9 l r hm i h0 hi) (AH5 l r hm i h0 hi)
 unfold On;rw[hfr];exact q
end
theorem Lows.both {J K:List Row} (h:Lows J) (k:Lows K):Lows (J++K):=λrow hr n=>by
 rcases AT7.1 hr with hr|hr
 ·exact h row hr n
 ·exact k row hr n
section
variable (l l2:List Int)
theorem ACg (Z:List Row) (hZ:Low (G6 (Ad l)++Z)):FX 61 [.ref 5 0,PK 1 0 (Bt l2)] (G6 (Ad l)++Z) [.v (DS 1 0 (Bt l2) (Dk (Ad l)) (IG l l2)),.v (.int .i64 0)] (G6 (Ad l)++Z):=by
 refine p61 (G6 (Ad l)++Z) hZ 1 0 (by decide) (Bt l2) 5 4 1 0 rfl (Dk (Ad l)) (by have:=HJ l;omega) (IG l l2) _ (.inl rfl) (λZ' hZ'=>?_) (VE l) (λZ' hZ'=>?_)
 ·rw[AT1];exact tU (C8 l) (by have:=Da l;omega) (λr hr=>⟨F0 (DZ hr).choose_spec.2,Ja (CC hr) (by decide)⟩) _ (Hc hZ hZ')
 ·refine AH7 _ 0 0 (Bt l2) (Dk (Ad l)) (IG l l2) ?_ (λZ2 hZ2=>?_)
  ·rw[AT1];exact Hc hZ hZ'
  ·rw[AT1,AT1];exact VD l l2 _ (Hc hZ (hZ'.both hZ2))
theorem AH4 (day:Int) (Z:List Row) (hZ:Low (G6 (Ad l)++Z)):FX 61 [.ref 5 0,PK 3 day (Bt l2)] (G6 (Ad l)++Z) [.v (DS 3 day (Bt l2) (Dk (Ad l)) ((IG l l2).filter (On l l2 day))),.v (.int .i64 0)] (G6 (Ad l)++Z):=by
 refine p61 (G6 (Ad l)++Z) hZ 3 day (by decide) (Bt l2) 5 4 1 0 rfl (Dk (Ad l)) (by have:=HJ l;omega) ((IG l l2).filter (On l l2 day)) _ (.inr rfl) (λZ' hZ'=>?_) (VE l) (λZ' hZ'=>?_)
 ·rw[AT1];exact tU (C8 l) (by have:=Da l;omega) (λr hr=>⟨F0 (DZ hr).choose_spec.2,Ja (CC hr) (by decide)⟩) _ (Hc hZ hZ')
 ·refine AH6 _ 0 day (Bt l2) (Dk (Ad l)) (IG l l2) (Ux l l2) ?_ (On l l2 day) (λZ2 hZ2=>?_) (λc hc Z2 hZ2=>?_)
  ·rw[AT1];exact Hc hZ hZ'
  ·rw[AT1,AT1];exact VD l l2 _ (Hc hZ (hZ'.both hZ2))
  ·rw[AT1,AT1];refine WL l l2 day [] c hc _ (Hc hZ (hZ'.both ?_));intro row hrow n;rcases ATt.1 hrow with rfl|hrow
   ·exact D2 n _ _ _ _ _
   ·exact hZ2 row hrow n
theorem Fl:(Bt l2).small:=K8 l2 2 0
theorem AQ6 (h20:PX 20 [] [.bool true]) (hl2:∀n∈l2,i64 n) (d2 d3:Int) (h2:i64 d2) (h3:i64 d3):PX 4 [AL .i64 l,AL .i64 l2,.int .i64 d2,.int .i64 d3] [.bool true]:=by
 have hp:=C8 l;have hb1:=Ew d2 80 (by decide);have hb2:=Ew d3 60 (by decide);have hn1:=HD d2 80 h2;have hn2:=HD d3 60 h3;have h13:=p13 [CN ps6 bs6] 0 (by simp) (by
  have:=Ek [];intro row hrow;rw[ATy.1 hrow];simp only[CN,Row.low];refine D1 λd hd=>?_;rcases ATt.1 hd with rfl|hd
  ·rfl
  ·obtain⟨b,_,rfl⟩:=ATw.1 hd;rfl) (m:=3) (by decide) (Ad l) (λr hr=>CC hr) (by have:=Da l;omega)
 rw[Nl,if_pos rfl,if_pos rfl]at h13;have hA:∀c∈IG l l2,∃r∈Ad l,r.file=c.1∧0≤c.2∧c.2 <r.claims.length:=λc hc=>by
  obtain⟨r,hr,h⟩:=GG hc;exact⟨r,Dx l hr,h⟩
 have hsame:∀r∈Ad l,∀q∈Ad l,r.file=q.file→r=q:=λr hr q hq h=>by
  have h1:=Es hp hr;rw[h,Es hp hq]at h1;exact(AVQ h1).symm
 refine p4 (ps:=ps6) (bs:=bs6) (by rw[Lz];decide) NW h20 p9t l l2 d2 d3 (Ad l) (EC (.ref 0 0) 1 (Ad l)) rfl (Ek _) (Bt l2) (DX l2).ok (Lu l2 0) (DX l2).kd
  (p10 l) (p14 _ (λr hr=>(CC hr).ok (by decide)) (by have:=Da l;omega)) h13 (p21 l2 hl2) (Dk (Ad l)) (by have:=Da l;omega) (λr hr=>by have:=(CC hr).ld;omega) (IG l l2) (Ux l l2)
  (On l l2 (35990+A8 d2 80)) (On l l2 (35990+A8 d2 80+A8 d3 60)) ?_ ?_ ?_ ?_ ?_ ?_ ?_
 ·intro Z hZ;exact p22 _ ((Ek _).lows hZ) 5 (Bt l2) (Fl l2) _ _ (λZ' hZ'=>by rw[AT1];exact ACg l l2 _ (Hc ((Ek _).lows hZ) hZ'))
 ·intro Z hZ;exact p23 _ ((Ek _).lows hZ) 5 (Bt l2) (Fl l2) _ (by omega) _ (IG l l2) _ (λZ' hZ'=>by rw[AT1];exact ACg l l2 _ (Hc ((Ek _).lows hZ) hZ')) (λZ' hZ'=>by rw[AT1];exact AH4 l l2 _ _ (Hc ((Ek _).lows hZ) hZ'))
 ·intro Z hZ;exact p23 _ ((Ek _).lows hZ) 5 (Bt l2) (Fl l2) _ (by omega) _ (IG l l2) _ (λZ' hZ'=>by rw[AT1];exact ACg l l2 _ (Hc ((Ek _).lows hZ) hZ')) (λZ' hZ'=>by rw[AT1];exact AH4 l l2 _ _ (Hc ((Ek _).lows hZ) hZ'))
 ·intro c hc h;exact Vo (by omega) h
 ·rintro⟨f,i⟩ hc;obtain⟨r,hr,hrf,h0,hi⟩:=GG hc;simp only at hrf;subst hrf;have hfr:I7 (Dk (Ad l)) r.file=r:=FD (Lw hp) hr;show Iw I6 (Bt l2) (Ad l) _ (r.file,i)=_;rw[Vu hp (Dx l hr)];unfold On;rw[hfr]
 ·rintro c hc r hr hrf;obtain⟨q,hq,hqf,h0,hi⟩:=hA c hc;have:=hsame r hr q hq (by rw[hrf,hqf]);subst this;exact s9 l r hr c.2 h0 hi
 ·rintro c hc r hr hrf;obtain⟨q,hq,hqf,h0,hi⟩:=hA c hc;have:=hsame r hr q hq (by rw[hrf,hqf]);subst this;exact AH5 l r hr c.2 h0 hi
end
end Go.Va
