/- Laws that ExtractBytes leans on, part 11. No condition of its own. -/
import Derived.Test.YtopldfpkgbkomaaGreatDoorL06
import Derived.Test.YtopldfpkgbkomaaGreatDoorL10
set_option linter.all false
set_option maxRecDepth 100000
set_option maxHeartbeats 4000000
noncomputable section
namespace Go.Va
open Go.Proofs
def DO (l:List Int) (k:Nat):Int:=match k with|0=> -1|j+1=>l.getD j 0
def Cx (l:List Int) (i:Int) (k:Nat):Bool:=decide (l.getD k 0≤DO l k∨i≤l.getD k 0)
def ED (l:List Int) (i:Int):Bool:= !(List.range l.length).any (Cx l i)
theorem kV (l:List Int) (i:Int) (hn:l.length≤2^40):PX 241 [AH .i64 l,.int .i64 i] [.bool (ED l i)]:=by
 refine BU 241 ?_;simp only[At 241,AE,AG,AU,AA 241 0,AA 241 1,AA 241 2,AV];simp[AH];refine Ao l.length (λk=>⟨[(1,.v (.int .i64 i)),(5,.v (.int .i64 (DO l k))),(8,.v (AH .i64 l)),(9,.v (.int .i64 l.length)),(10,.v (.int .i64 k))],[]⟩) (λk=>∀j <k,Cx l i j=false) (by simp[AH,DO]) (by omega) ?_;intro k hk hI;simp only[Zw,BA 241 0,AA 241 3];simp[AH];by_cases h1:k <l.length
 ·obtain⟨x,hx⟩:∃x,l[k]?=some x:=⟨_,qH h1⟩;have hw:=Bo k;have hb:Cx l i k=decide (x≤DO l k∨i≤x):=by unfold Cx;simp[List.getD,hx]
  have hlast:DO l (k+1)=x:=by simp[DO,List.getD,hx]
  rw[if_pos (by omega),AB];simp only[AA 241 4,AA 241 5];simp[hx];by_cases b1:x≤DO l k
  ·have hbt:Cx l i k=true:=by rw[hb];simp[b1]
   simp[b1,AD,AA 241 6,AX 241];unfold ED;rw[ER h1 hbt];rfl
  ·by_cases b2:i≤x
   ·have hbt:Cx l i k=true:=by rw[hb];simp[b2]
    simp[b1,b2,AD,AA 241 6,AX 241];unfold ED;rw[ER h1 hbt];rfl
   ·have hbf:Cx l i k=false:=by rw[hb];simp;omega
    simp[b1,b2,AB,AA 241 7,AA 241 8,hw,h1,hlast];intro j hj;rcases qi j k with h|h
    ·exact hI j h
    ·have:j=k:=by omega
     subst this;exact hbf
 ·have hk2:k=l.length:=by omega
  subst hk2;rw[if_neg (by omega),AJ];simp[AD,AA 241 9,AX 241];unfold ED;rw[Fi hI];rfl
theorem lD (l:List Int) (i:Int) (hn:l.length≤2^40):PX 213 [AH .i64 l,.int .i64 i] [.bool (ED l i)]:=by
 refine BU 213 ?_;simp only[At 213,AE,AG,AU,AA 213 0,AA 213 1,AV];simp[AH];refine Ao l.length (λk=>⟨[(0,.v (AH .i64 l)),(1,.v (.int .i64 i)),(5,.v (.int .i64 k))],[]⟩) (λk=>∀j <k,Cx l i j=false) (by simp[AH]) (by omega) ?_;intro k hk hI;have hge: -1≤DO l k:=by
  have:∀k,(∀j <k,Cx l i j=false)→ -1≤DO l k:=by
   intro k;induction k with
   |zero=>intro _;simp[DO]
   |succ j ih=>
    intro h;have h1:=ih λj' h'=>h j' (by omega);have h2:=h j (by omega);unfold Cx at h2;simp at h2;have e:DO l (j+1)=l.getD j 0:=rfl;rw[e];simp only[t8]at *;omega
  exact this k hI
 simp only[Zw,BA 213 0,AW,AA 213 2];simp[AH];by_cases h1:k <l.length
 ·obtain⟨x,hx⟩:∃x,l[k]?=some x:=⟨_,qH h1⟩;have hw:=Bo k;have hb:Cx l i k=decide (x≤DO l k∨i≤x):=by unfold Cx;simp[List.getD,hx]
  have hbad:Cx l i k=true→ED l i=false:=by intro h;unfold ED;rw[ER h1 h];rfl
  have hgood:Cx l i k=false→∀j <k+1,Cx l i j=false:=by
   intro hbf j hj;rcases qi j k with h|h
   ·exact hI j h
   ·have:j=k:=by omega
    subst this;exact hbf
  rw[if_pos (by omega),AB];simp only[AA 213 4];by_cases b1:x <0
  ·have hbt:Cx l i k=true:=by rw[hb];simp;omega
   simp[hx,b1,AD,AA 213 5,AX 213,hbad hbt]
  ·by_cases b2:i≤x
   ·have hbt:Cx l i k=true:=by rw[hb];simp[b2]
    simp[hx,b1,b2,AD,AA 213 5,AX 213,hbad hbt]
   ·cases k with
    |zero=>
     have hbf:Cx l i 0=false:=by
      have e:DO l 0= -1:=rfl;rw[hb,e];simp;omega
     have hx2:l[0]=x:=(qK.1 hx).2;simp at hw;simp[hx2,b1,b2,AB,AA 213 3,hw,h1];exact hbf
    |succ j=>
     obtain⟨y,hy⟩:∃y,l[j]?=some y:=⟨_,qH (by omega)⟩;have hw2:IntKind.i64.wrap (j:Int)=j:=AQ;have hl:DO l (j+1)=y:=by simp[DO,List.getD,hy]
     have hx2:l[j+1]=x:=(qK.1 hx).2;have h9:(0:Int) <(j:Int)+1:=by omega
     have h10:(0:Int)≤(j:Int)+1:=by omega
     by_cases b3:x≤y
     ·have hbt:Cx l i (j+1)=true:=by rw[hb,hl];simp[b3]
      simp[b1,b2,h9,h10,hw2,hx,hy,b3,AD,AA 213 5,AX 213,hbad hbt]
     ·have hbf:Cx l i (j+1)=false:=by rw[hb,hl];simp;omega
      simp at hw;simp[b1,b2,h9,h10,hw2,hx2,hy,b3,AB,AA 213 3,hw,h1];exact hgood hbf
 ·have hk2:k=l.length:=by omega
  subst hk2;rw[if_neg (by omega),AJ];simp[AD,AA 213 6,AX 213];unfold ED;rw[Fi hI];rfl
structure Clm where
 refs:List Int
 body:F
def Clm.V (c:Clm):V:= .agg [AH .i64 c.refs,.int .i64 c.body.op,.int .i64 c.body.n,.list (c.body.ins.map Ivl.V),.list (c.body.kids.map F.V)]
def Clm.ok (c:Clm):Prop:=(∀n∈c.refs,i64 n)∧c.refs.length≤2^40∧c.body.ok
theorem F.V_flds (f:F):f.V= .agg [.int .i64 f.op,.int .i64 f.n,.list (f.ins.map Ivl.V),.list (f.kids.map F.V)]:=by cases f;rw[F.V_eq];rfl
def F1 (e:Nat→Int):Nat→Nat→Int
 |_,0=>0
 |k,m+1=>if e k≠0 then e k else F1 e (k+1) m
theorem Fu {e:Nat→Int}:∀(m k:Nat),(∀j,k≤j→j <k+m→e j=0)→F1 e k m=0
 |0,_,_=>rfl
 |m+1,k,h=>by
  simp only[F1,h k (by omega) (by omega)];simpa using Fu m (k+1) λj h1 h2=>h j (by omega) (by omega)
theorem IN {e:Nat→Int}:∀(m k i:Nat),k≤i→i <k+m→(∀j,k≤j→j <i→e j=0)→e i≠0→F1 e k m=e i
 |0,k,i,h1,h2,_,_=>by omega
 |m+1,k,i,h1,h2,h,hi=>by
  by_cases hk:k=i
  ·subst hk;simp only[F1,if_pos hi]
  ·simp only[F1,h k (by omega) (by omega)];simpa using IN m (k+1) i (by omega) (by omega) (λj h3 h4=>h j (by omega) h4) hi
def L6 (c:Clm) (k:Nat):Int:=if c.refs.length>8 then 4 else if ED c.refs k then Bt c.body else 1
def Ji (l:List Clm) (k:Nat):Int:=match l[k]? with|none=>0|some c=>L6 c k
def CV (l:List Clm):Int:=if l.length>32 then 4 else F1 (Ji l) 0 l.length
theorem eA (l:List Clm) (hl:∀c∈l,c.ok) (hn:l.length≤2^40):PX 138 [.list (l.map Clm.V)] [.int .i64 (CV l)]:=by
 refine BU 138 ?_;obtain⟨R,hR⟩:∃R,CV l=R:=⟨_,rfl⟩;rw[hR];unfold CV at hR;simp only[Zw,At 138,AA 138 0,AA 138 1,AV];simp;by_cases h32:32 <l.length
 ·have h32':32 <(l.length:Int):=by omega
  simp[h32]at hR;simp[h32',AD,AA 138 2,AX 138,hR]
 ·have h32':¬32 <(l.length:Int):=by omega
  simp only[gt_iff_lt,h32,if_false]at hR;simp[h32',AB,AA 138 3];refine Al l.length (λk s=>s.e=[(9,.v (.list (l.map Clm.V))),(10,.v (.int .i64 l.length)),(11,.v (.int .i64 k))]∧∀j <k,Ji l j=0) ⟨rfl,by omega⟩ ?_;rintro k ⟨se,sh⟩ hk ⟨he,hI⟩;simp only at he;subst he;simp only[Zw,BA 138 0,AA 138 4];simp;by_cases h1:k <l.length
  ·obtain⟨x,hx⟩:∃x,l[k]?=some x:=⟨_,qH h1⟩;obtain⟨o1,o2,o3⟩:=hl x (qJ hx);have hw:=Bo k;have hat:Ji l k=L6 x k:=by unfold Ji;rw[hx]
   have hbad:L6 x k≠0→R=L6 x k:=λh=>by rw[←hR,IN l.length 0 k (by omega) (by omega) (λj _ h3=>hI j h3) (by rw[hat];exact h),hat]
   have p1:=(kV x.refs k o2).fsp;have p2:=(oP x.body o3).fsp;rw[F.V_flds]at p2;unfold L6 at hbad hat;rw[if_pos (by omega),AB];simp only[AA 138 5,AA 138 6];simp[hx,Clm.V,AH,AS];simp[AH]at p1 p2;by_cases b1:8 <x.refs.length
   ·have b1':8 <(x.refs.length:Int):=by omega
    simp[b1]at hbad;simp[b1',AD,AA 138 7,AX 138,hbad]
   ·have b1':¬8 <(x.refs.length:Int):=by omega
    simp only[gt_iff_lt,b1,if_false]at hbad hat;simp[b1',AA 138 8];refine⟨_,_,p1 _,?_⟩;cases hr:ED x.refs k with
    |false=>
     simp[hr]at hbad;simp[AD,AA 138 9,AX 138,hbad]
    |true=>
     simp[hr]at hbad hat;simp[AB,AA 138 10];refine⟨_,_,p2 _,?_⟩;by_cases b2:Bt x.body=0
     ·rw[b2]at hat;simp[b2,AA 138 11,AA 138 13,hw,h1];intro j hj;rcases qi j k with h|h
      ·exact hI j h
      ·have:j=k:=by omega
       subst this;exact hat
     ·simp[b2,AA 138 11,AD,AA 138 12,AX 138,hbad b2]
  ·have hk2:k=l.length:=by omega
   subst hk2;rw[if_neg (by omega),AJ];rw[Fu _ _ (λj _ h3=>hI j (by omega))]at hR;simp[AD,AA 138 14,AX 138,hR]
theorem Zm (l:List Clm) (hl:∀c∈l,c.ok) (hn:l.length≤2^40):PX 126 [.list (l.map Clm.V)] [.int .i64 (CV l)]:=by
 refine BU 126 ?_;obtain⟨R,hR⟩:∃R,CV l=R:=⟨_,rfl⟩;rw[hR];unfold CV at hR;simp only[Zw,At 126,AA 126 0,AA 126 1,AV];simp;by_cases h32:32 <l.length
 ·have h32':32 <(l.length:Int):=by omega
  simp[h32]at hR;simp[h32',AD,AA 126 2,AX 126,hR]
 ·have h32':¬32 <(l.length:Int):=by omega
  simp only[gt_iff_lt,h32,if_false]at hR;simp[h32',AB,AA 126 3];refine Ao l.length (λk=>⟨[(0,.v (.list (l.map Clm.V))),(3,.v (.int .i64 k))],[]⟩) (λk=>∀j <k,Ji l j=0) rfl (by omega) ?_;intro k hk hI;simp only[Zw,BA 126 0,AA 126 4];simp;by_cases h1:k <l.length
  ·obtain⟨x,hx⟩:∃x,l[k]?=some x:=⟨_,qH h1⟩;obtain⟨o1,o2,o3⟩:=hl x (qJ hx);have hw:=Bo k;have hat:Ji l k=L6 x k:=by unfold Ji;rw[hx]
   have hbad:L6 x k≠0→R=L6 x k:=λh=>by rw[←hR,IN l.length 0 k (by omega) (by omega) (λj _ h3=>hI j h3) (by rw[hat];exact h),hat]
   have p1:=(lD x.refs k o2).fsp;have p2:=(Wp x.body o3).fsp;rw[F.V_flds]at p2;unfold L6 at hbad hat;rw[if_pos (by omega),AB];simp only[AA 126 6];simp[hx,Clm.V,AH];simp[AH]at p1 p2;by_cases b1:8 <x.refs.length
   ·have b1':8 <(x.refs.length:Int):=by omega
    simp[b1]at hbad;simp[b1',AD,AA 126 7,AX 126,hbad]
   ·have b1':¬8 <(x.refs.length:Int):=by omega
    simp only[gt_iff_lt,b1,if_false]at hbad hat;simp[b1',hx,Clm.V,AH,AB,AA 126 8];refine⟨_,_,p1 _,?_⟩;cases hr:ED x.refs k with
    |false=>
     simp[hr]at hbad;simp[AD,AA 126 9,AX 126,hbad]
    |true=>
     simp[hr]at hbad hat;simp[hx,Clm.V,AH,AA 126 10];refine⟨_,_,p2 _,?_⟩;by_cases b2:Bt x.body=0
     ·rw[b2]at hat;simp[b2,AA 126 11,AA 126 5,hw,h1];intro j hj;rcases qi j k with h|h
      ·exact hI j h
      ·have:j=k:=by omega
       subst this;exact hat
     ·simp[b2,AA 126 11,AD,AA 126 12,AX 126,hbad b2]
  ·have hk2:k=l.length:=by omega
   subst hk2;rw[if_neg (by omega),AJ];rw[Fu _ _ (λj _ h3=>hI j (by omega))]at hR;simp[AD,AA 126 13,AX 126,hR]
def BT (c:Clm):List Int:=Ah c.refs++AY (By c.body)
def A8 (l:List Clm):List Int:=AN l.length++l.flatMap BT
theorem kX (l:List Clm) (hl:∀c∈l,c.ok) (hn:l.length≤2^40) (hb:(A8 l).length≤2^44):PX 235 [.list (l.map Clm.V)] [AH .u8 (A8 l)]:=by
 refine BU 235 ?_;have il:i64 (l.length:Int):=by unfold i64;omega
 have room:∀m:Nat,m≤2^46→AK m 1=true:=by intro m hm;simp[AK];omega
 unfold A8 at hb ⊢;rw[qG]at hb;simp only[At 235,AE,AG,AU,AA 235 0,AA 235 1,AA 235 2,AV];simp;refine⟨_,_,Fl l.length il _,?_⟩;simp;refine AM l.length (λk=>⟨[(0,.v (.list (l.map Clm.V))),(3,.own 5 1 ((AN l.length++(l.take k).flatMap BT).map (.int .u8))),(4,.v (.int .i64 k))],[]⟩) (by simp) ?_;intro k hk;simp only[Zw,BA 235 0,AA 235 3];simp;by_cases hlt:k <l.length
 ·obtain⟨x,hx⟩:∃x,l[k]?=some x:=⟨_,qH hlt⟩;have hxm:=qJ hx;have hxe:l[k]=x:=(qK.1 hx).2;obtain⟨o1,o2,o3⟩:=hl x hxm;have hw:=Bo k;have hle:=Du l BT (k+1);rw[Av hlt,hxe,qG]at hle;have e:(l.take (k+1)).flatMap BT=(l.take k).flatMap BT++BT x:=by rw[Av hlt,hxe]
  have ec:(BT x).length=(Ah x.refs).length+(AY (By x.body)).length:=by simp[BT]
  have er:(AY (By x.body)).length=(CY (By x.body).length).length+(By x.body).length:=by simp[AY]
  have p1:=Ws x.refs o1 o2;have p2:=(jo x.body o3 (by omega)).fsp;have p3:=So (By x.body) (by omega);rw[F.V_flds]at p2;have e2:BT x=Ah x.refs++AY (By x.body):=rfl;generalize AY (By x.body)=B at*;generalize Ah x.refs=A at*;generalize By x.body=C at*;rw[if_pos (by omega),AB];simp only[AA 235 5,AA 235 6];simp[AH]at p1 p2 p3;simp[hx,Clm.V,AH];refine⟨_,_,p1 _,?_⟩;simp[-List.length_flatMap,hx,Clm.V,room _ (show (AN l.length).length+((l.take k).flatMap BT).length+A.length≤2^46 by omega)];refine⟨_,_,p2 _,?_⟩;simp[-List.length_flatMap];refine⟨_,_,p3 _,?_⟩;simp[-List.length_flatMap,hw,hlt,AA 235 4,room _ (show (AN l.length).length+(((l.take k).flatMap BT).length+A.length)+B.length≤2^46 by omega),e,e2]
 ·have:k=l.length:=by omega
  subst this;rw[if_neg (by omega),AJ];simp[AD,AA 235 7,AX 235,AH]
theorem mE (l:List Clm) (hl:∀c∈l,c.ok) (hn:l.length≤2^40) (hb:(A8 l).length≤2^44):PX 134 [.list (l.map Clm.V)] [AH .u8 (if CV l=0 then A8 l else []),.int .i64 (CV l)]:=by
 refine BU 134 ?_;have p1:=(Zm l hl hn).fsp;have p2:=(kX l hl hn hb).fsp;generalize CV l=e at*;simp[AH]at p1 p2;simp only[At 134,AE,AG,AL,AA 134 0,AA 134 1,AA 134 2,AV];simp;refine⟨_,_,p1 _,?_⟩;by_cases h:e=0
 ·subst h;simp[AB,AA 134 4];refine⟨_,_,p2 _,?_⟩;simp[AD,AX 134,AH]
 ·simp[h,AD,AA 134 3,AX 134,AH]
structure Dat where
 cl:Int
 ix:Int
 day:Int
 file:Int
structure Own where
 party:Int
 num:Int
 den:Int
structure Lic where
 fr:Int
 to:Int
 fst:Int
 lst:Int
structure Rgt where
 file:Int
 state:Int
 force:Int
 claims:List Clm
 dates:List Dat
 bad:List Int
 owners:List Own
 lics:List Lic
def Dat.V (d:Dat):V:= .agg [.int .i64 d.cl,.int .i64 d.ix,.int .i64 d.day,.int .i64 d.file]
def Own.V (o:Own):V:= .agg [.int .i64 o.party,.int .i64 o.num,.int .i64 o.den]
def Lic.V (h:Lic):V:= .agg [.int .i64 h.fr,.int .i64 h.to,.int .i64 h.fst,.int .i64 h.lst]
def Rgt.cs (r:Rgt):List V:=[.int .i64 r.file,.int .i64 r.state,.int .i64 r.force,.list (r.claims.map Clm.V),.list (r.dates.map Dat.V),AH .i64 r.bad,.list (r.owners.map Own.V),.list (r.lics.map Lic.V)]
def Rgt.V (r:Rgt):V:= .agg r.cs
def Dat.ok (d:Dat):Prop:=i64 d.cl∧i64 d.ix∧i64 d.day∧i64 d.file
def Own.ok (o:Own):Prop:=i64 o.party∧i64 o.num∧i64 o.den
def Lic.ok (h:Lic):Prop:=i64 h.fr∧i64 h.to∧i64 h.fst∧i64 h.lst
structure Rgt.ok (r:Rgt):Prop where
 file:i64 r.file
 state:i64 r.state
 force:i64 r.force
 claims:∀c∈r.claims,c.ok
 dates:∀d∈r.dates,d.ok
 bad:∀n∈r.bad,i64 n
 owners:∀o∈r.owners,o.ok
 lics:∀h∈r.lics,h.ok
 lc:r.claims.length≤2^30
 ld:r.dates.length≤2^30
 lb:r.bad.length≤2^30
 lo:r.owners.length≤2^30
 ll:r.lics.length≤2^30
 enc:(A8 r.claims).length≤2^39
def D5 (n lo hi:Int):Bool:=decide (lo≤n∧n≤hi)
def Co {α:Type} (f:α→α→Bool):List α→Bool
 |x::y::l=>f x y&&Co f (y::l)
 |_=>true
def HC (n:Nat) (d:Dat):Bool:=D5 d.cl 0 (n-1)&&D5 d.ix 0 63&&D5 d.day 0 131072&&D5 d.file 0 4095
def HD (a b:Dat):Bool:=decide (a.cl <b.cl∨a.cl=b.cl∧a.ix <b.ix)
def FW (o:Own):Bool:=D5 o.party 1 4095&&En o.num o.den&&decide (0 <o.num∧o.num≤o.den)
def G9 (h:Lic):Bool:=D5 h.fr 1 4095&&D5 h.to 1 4095&&D5 h.fst 0 h.lst&&decide (h.lst≤131072)
def Ag (r:Rgt):Bool:=
 D5 r.file 0 4095&&D5 r.state 0 4&&D5 r.force 0 4&&CV r.claims==0&&decide (r.dates.length≤4096)&&decide (r.lics.length≤4096)&&
 (r.dates.all (HC r.claims.length)&&Co HD r.dates)&&(r.bad.all (λi=>D5 i 0 (r.claims.length-1))&&Co (λa b=>decide (a <b)) r.bad)&&
 (r.owners.all FW&&Co (λa b=>decide (a.party <b.party)) r.owners)&&r.lics.all G9
def CE (d:Dat):List Int:=AN d.cl++AN d.ix++AN d.day++AN d.file
def CB (o:Own):List Int:=AN o.party++AN o.num++AN o.den
def CC (h:Lic):List Int:=AN h.fr++AN h.to++AN h.fst++AN h.lst
def Bg (r:Rgt):List Int:=
 AN r.file++AN r.state++AN r.force++AY (A8 r.claims)++AN r.dates.length++r.dates.flatMap CE++Ah r.bad++
 AN r.owners.length++r.owners.flatMap CB++AN r.lics.length++r.lics.flatMap CC
def DJ (k:Int):F:= .mk 1 ((IntKind.i64.wrap (k.tdiv 8)).tmod 6) [] []
def Db (k:Int):F:= .mk 2 ((IntKind.i64.wrap (k.tdiv 8)).tmod 2) [⟨(IntKind.i64.wrap (k.tdiv 48)).tmod 4,1,
 IntKind.i64.wrap (IntKind.i64.wrap ((IntKind.i64.wrap (k.tdiv 48)).tmod 4+1)+(IntKind.i64.wrap (k.tdiv 192)).tmod 2),1,(IntKind.i64.wrap (k.tdiv 384)).tmod 2==1,false,false,false⟩] []
def Dm (n:Int):F:=
 let k:=Aj n 1048576
 if k.tmod 8=0∨k.tmod 8=1∨k.tmod 8=2 then DJ k
 else if k.tmod 8=3∨k.tmod 8=4 then Db k
 else if k.tmod 8=5 then .mk 4 0 [] [Db k,DJ k]
 else if k.tmod 8=6 then .mk 3 0 [] [DJ k]
 else .mk 6 0 [] [DJ k]
theorem dg (n:Int):PX 212 [.int .i64 n] [(Dm n).V]:=by
 refine BU 212 ?_;have p1:=(MW n 1048576 (by decide)).fsp;unfold Dm DJ Db;generalize Aj n 1048576=k at*;simp at p1;simp only[Zw,At 212,AA 212 0,AA 212 1,AV];simp;refine⟨_,_,p1 _,?_⟩;simp[AA 212 2,AS];simp[AA 212 3,AS];simp[AA 212 4,AS];simp[AA 212 5,AS];by_cases h0:k.tmod 8=0
 ·simp[AA 212 6,AA 212 7,h0,AB,AA 212 10,AS,AD,AX 212,F.V_eq]
 by_cases h1:k.tmod 8=1
 ·simp[AA 212 6,AA 212 7,AA 212 8,h1,AB,AA 212 10,AS,AD,AX 212,F.V_eq]
 by_cases h2:k.tmod 8=2
 ·simp[AA 212 6,AA 212 7,AA 212 8,AA 212 9,h2,AB,AA 212 10,AS,AD,AX 212,F.V_eq]
 by_cases h3:k.tmod 8=3
 ·simp[AA 212 6,AA 212 7,AA 212 8,AA 212 9,AA 212 11,h3,AB,AA 212 13,AS,AD,AX 212,F.V_eq,Ivl.V]
 by_cases h4:k.tmod 8=4
 ·simp[AA 212 6,AA 212 7,AA 212 8,AA 212 9,AA 212 11,AA 212 12,h4,AB,AA 212 13,AS,AD,AX 212,F.V_eq,Ivl.V]
 by_cases h5:k.tmod 8=5
 ·simp[AA 212 6,AA 212 7,AA 212 8,AA 212 9,AA 212 11,AA 212 12,AA 212 14,h5,AB,AA 212 15,AS,AD,AX 212,F.V_eq,Ivl.V]
 by_cases h6:k.tmod 8=6
 ·simp[AA 212 6,AA 212 7,AA 212 8,AA 212 9,AA 212 11,AA 212 12,AA 212 14,AA 212 16,h6,AB,AA 212 17,AS,AD,AX 212,F.V_eq]
 simp[AA 212 6,AA 212 7,AA 212 8,AA 212 9,AA 212 11,AA 212 12,AA 212 14,AA 212 16,h0,h1,h2,h3,h4,h5,h6,AB,AA 212 18,AS,AD,AX 212,F.V_eq]
theorem Kr (n lo hi:Int):PX 125 [.int .i64 n,.int .i64 lo,.int .i64 hi] [.bool (D5 n lo hi)]:=by
 refine BU 125 ?_;by_cases h1:lo≤n<;>by_cases h2:n≤hi<;>simp[At 125,awp,AA 125 0,AA 125 1,AX 125,AV,h1,h2,D5]
theorem Kq (n lo hi:Int):PX 216 [.int .i64 n,.int .i64 lo,.int .i64 hi] [.bool (D5 n lo hi)]:=by
 refine BU 216 ?_;by_cases h1:lo≤n<;>by_cases h2:n≤hi<;>simp[At 216,awp,AA 216 0,AA 216 1,AX 216,AV,h1,h2,D5]
theorem kw (a b:Dat):PX 220 [a.V,b.V] [.bool (HD a b)]:=by
 refine BU 220 ?_;unfold HD;by_cases h1:a.cl <b.cl
 ·simp[At 220,awp,AA 220 0,AA 220 1,AX 220,AV,Dat.V,h1]
 ·by_cases h2:a.cl=b.cl
  ·simp[At 220,awp,AA 220 0,AA 220 1,AX 220,AV,Dat.V,h2]
  ·simp[At 220,awp,AA 220 0,AA 220 1,AX 220,AV,Dat.V,h1,h2]
theorem kh (a b:Int):PX 224 [.int .i64 a,.int .i64 b] [.bool (decide (a <b))]:=by
 refine BU 224 ?_;simp[At 224,awp,AA 224 0,AA 224 1,AX 224,AV]
theorem ka (a b:Own):PX 229 [a.V,b.V] [.bool (decide (a.party <b.party))]:=by
 refine BU 229 ?_;simp[At 229,awp,AA 229 0,AA 229 1,AX 229,AV,Own.V]
theorem kY (x:Lic):PX 231 [x.V] [.bool (G9 x)]:=by
 refine BU 231 ?_;have p1:=(Kq x.fr 1 4095).fsp;have p2:=(Kq x.to 1 4095).fsp;have p3:=(Kq x.fst 0 x.lst).fsp;unfold G9;generalize D5 x.fr 1 4095=A at*;generalize D5 x.to 1 4095=B at*;generalize D5 x.fst 0 x.lst=C at*;simp at p1 p2 p3;simp only[At 231,AE,AG,AA 231 0,AA 231 1,AV];simp[Lic.V];refine⟨_,_,p1 _,?_⟩;cases A with
 |false=>simp[AD,AX 231]
 |true=>
  simp;refine⟨_,_,p2 _,?_⟩;cases B with
  |false=>simp[AD,AX 231]
  |true=>
   simp;refine⟨_,_,p3 _,?_⟩;cases C with
   |false=>simp[AD,AX 231]
   |true=>simp[AD,AX 231]
theorem eW:En 1 1=true:=by decide
theorem kf (x:Own) (hx:x.ok):PX 226 [x.V] [.bool (FW x)]:=by
 refine BU 226 ?_;have p1:=(Kq x.party 1 4095).fsp;have p2:=(ke x.num x.den 1 1 hx.2.1 hx.2.2 (by unfold i64;omega) (by unfold i64;omega)).fsp;rw[eW,uN]at p2;unfold FW;generalize D5 x.party 1 4095=A at*;simp only[At 226,AE,AG,AA 226 0,AA 226 1,AV];simp[Own.V];cases hR:En x.num x.den with
 |false=>
  rw[hR]at p2;simp[BL]at p1 p2;refine⟨_,_,p2 _,?_⟩;simp[AA 226 2];refine⟨_,_,p1 _,?_⟩;cases A<;>simp[AD,AX 226]
 |true=>
  rw[hR]at p2;simp[BL]at p1 p2;refine⟨_,_,p2 _,?_⟩;simp[AA 226 2];refine⟨_,_,p1 _,?_⟩;have hc:(P0 x.num x.den 1 1≤0)↔x.num≤x.den:=by unfold P0;simp;split<;>(try split)<;>omega
  cases A with
  |false=>simp[AD,AX 226]
  |true=>
   by_cases h1:x.num≤x.den
   ·have h2:=hc.2 h1;simp[h2,h1,AD,AX 226]
   ·have h2:¬P0 x.num x.den 1 1≤0:=λh=>h1 (hc.1 h);simp[h2,h1,AD,AX 226]
def Low (h:List Row):Prop:=∀row∈h,Row.low h.length row=true
theorem k9 (x:Dat) (n:Int) (h:List Row) (r:Nat) (hr:h[r]?=some (.cells [.v (.int .i64 n)])) (hn:0≤n∧n≤2^40) (hl:Low h):
  FX 218 [.v x.V,.ref r 0] h [.v (.bool (D5 x.cl 0 (n-1)&&D5 x.ix 0 63&&D5 x.day 0 131072&&D5 x.file 0 4095))] h:=by
 refine CW (KN 218) rfl (qM _) hl (by simp[D.lt]) ?_;have w1:IntKind.i64.wrap (n-1)=n-1:=AQ;have p1:=(Kq x.cl 0 (n-1)).fsp;have p2:=(Kq x.ix 0 63).fsp;have p3:=(Kq x.day 0 131072).fsp;have p4:=(Kq x.file 0 4095).fsp;have hr':=Az [.cells [.v (.int .i64 x.cl),.v (.int .i64 x.ix),.v (.int .i64 x.day),.v (.int .i64 x.file)]] hr;generalize D5 x.cl 0 (n-1)=A at*;generalize D5 x.ix 0 63=B at*;generalize D5 x.day 0 131072=C at*;generalize D5 x.file 0 4095=E at*;simp at p1 p2 p3 p4;simp only[At 218,AE,AG,AA 218 0,AA 218 1,Ab];simp[Dat.V,hr',w1];refine⟨_,_,p1 _,?_⟩;cases A with
 |false=>simp[AD,AX 218]
 |true=>
  simp;refine⟨_,_,p2 _,?_⟩;cases B with
  |false=>simp[AD,AX 218]
  |true=>
   simp;refine⟨_,_,p3 _,?_⟩;cases C with
   |false=>simp[AD,AX 218]
   |true=>
    simp;refine⟨_,_,p4 _,?_⟩;cases E<;>simp[AD,AX 218]
theorem km (x n:Int) (h:List Row) (r:Nat) (hr:h[r]?=some (.cells [.v (.int .i64 n)])) (hn:0≤n∧n≤2^40):
  FX 222 [.v (.int .i64 x),.ref r 0] h [.v (.bool (D5 x 0 (n-1)))] h:=by
 refine Fn 222 ?_;have w1:IntKind.i64.wrap (n-1)=n-1:=AQ;have p1:=(Kq x 0 (n-1)).fsp;simp at p1;simp only[At 222,AE,AG,AA 222 0,AA 222 1,Ab];simp[hr,w1];refine⟨_,_,p1 _,?_⟩;simp[AD,AX 222]
def KO (A B R:Row) (xs:List Int):List Row:=[A,wr xs,.cells [.ref 1 0],B,R]
theorem Ny {x:Ivl} (hx:x.ok):∀n∈[x.ln,x.ld,x.hn,x.hd,E4 x.lo,E4 x.ho,E4 x.li,E4 x.hi],i64 n:=by
 intro n hn;simp at hn;rcases hn with rfl|rfl|rfl|rfl|rfl|rfl|rfl|rfl
 ·exact hx.1
 ·exact hx.2.1
 ·exact hx.2.2.1
 ·exact hx.2.2.2
 all_goals exact SQ _
def Ivl.row (x:Ivl):Row:= .cells [.v (.int .i64 x.ln),.v (.int .i64 x.ld),.v (.int .i64 x.hn),.v (.int .i64 x.hd),.v (.bool x.lo),.v (.bool x.ho),.v (.bool x.li),.v (.bool x.hi)]
theorem my (A B R:Row) (ins:List Ivl) (hins:∀x∈ins,x.ok) (hl:ins.length≤2^40) (xs:List Int) (hb:xs.length+(ins.flatMap Ce).length≤2^43) (d6:D) (J:List Row):
  awp Tryz.prog An (.loop (lG 232 1)) (λe s=>e= .exit 2∧AF s.e 5= .ref 2 0∧AF s.e 6=d6∧s.h=KO A B R (xs++ins.flatMap Ce)++(J++ins.map Ivl.row))
   ⟨[(5,.ref 2 0),(6,d6),(33,.v (.list (ins.map Ivl.V))),(34,.v (.int .i64 ins.length)),(35,.v (.int .i64 0))],KO A B R xs++J⟩:=by
 refine Al ins.length (λk s=>s.e=[(5,.ref 2 0),(6,d6),(33,.v (.list (ins.map Ivl.V))),(34,.v (.int .i64 ins.length)),(35,.v (.int .i64 k))]∧s.h=KO A B R (xs++(ins.take k).flatMap Ce)++(J++(ins.map Ivl.row).take k)) ⟨rfl,by simp⟩ ?_;rintro k ⟨se,sh⟩ hk ⟨he,hh⟩;simp only at he hh;subst he hh;simp only[Zw,BA 232 1,AA 232 11];simp;by_cases hlt:k <ins.length
 ·obtain⟨x,hx⟩:∃x,ins[k]?=some x:=⟨_,qH hlt⟩;have hxe:ins[k]=x:=(qK.1 hx).2;have ox:=hins x (qJ hx);have hw:=Bo k;rw[if_pos (by omega),AB];simp only[AW,AA 232 12,AA 232 13];simp[hx,Ivl.V,AS,KO];refine⟨_,_,⟨rfl,rfl⟩,_,Wo x.lo,_,_,⟨rfl,rfl⟩,_,Wo x.ho,_,_,⟨rfl,rfl⟩,_,Wo x.li,_,_,⟨rfl,rfl⟩,_,Wo x.hi,?_⟩;simp;have hle:=Du ins Ce (k+1);rw[Av hlt,hxe,qG]at hle;have hp:=λh hr=>Ub [x.ln,x.ld,x.hn,x.hd,E4 x.lo,E4 x.ho,E4 x.li,E4 x.hi] (Ny ox) (by simp) h 1 (xs++(ins.take k).flatMap Ce) hr (by rw[qG];omega);simp[AH]at hp;refine⟨_,_,hp _ rfl,?_⟩;have htk:ins.take (k+1)=ins.take k++[x]:=by rw[sQ hlt,hxe]
  have htr:(ins.map Ivl.row).take (k+1)=(ins.map Ivl.row).take k++[x.row]:=by rw[←rE,htk,qh,rE];rfl
  simp[AA 232 14,hw,hlt,htk,-List.map_take];exact⟨rfl,htr.symm⟩
 ·have:k=ins.length:=by omega
  subst this;rw[if_neg (by omega),AJ];simp;exact qw (by simp)
theorem ig (A B:Row) (e0:CH) (he:AF e0 5= .ref 2 0) (g:F) (hg:g.ok1) (hk:g.kids.length≤2^40) (xs:List Int) (hb:xs.length+(C7 g).length≤2^43) (J:List Row):
  ZD Tryz.prog An 4 [.v g.V] (KO A B (BF Tryz.prog An .ready e0 [18] (lG 232 0) (lG 232 1000)) xs++J) true (KO A B (BF Tryz.prog An .ready e0 [18] (lG 232 0) (lG 232 1000)) (xs++C7 g)++(J++(.cells g.cells::g.ins.map Ivl.row))):=by
 obtain⟨op,n,ins,kids⟩:=g;obtain⟨o1,o2,o3,o4⟩:=hg;simp only[F.op,F.n,F.ins,F.kids]at*;refine GX (e0:=e0) (ps:=[18]) (asg:=(lG 232 0)) (body:=(lG 232 1000)) (by simp[KO]) rfl ?_;simp only[F.cells,F.op,F.n,F.ins,F.kids,F.V_eq,C7]at*;simp only[qG]at hb;have il:i64 (ins.length:Int):=by unfold i64;omega
 have kl:i64 (kids.length:Int):=by unfold i64;omega
 simp only[KT,BA 232 0,BA 232 1000,AG,AU,AE,AA 232 6,AA 232 7,AA 232 8,AA 232 9,AA 232 10];simp[KO,he,AS];refine⟨_,_,(MN op o1 _ 1 xs rfl (by omega)),?_⟩;simp;refine⟨_,_,(MN n o2 _ 1 (xs++AN op) rfl (by simp;omega)),?_⟩;simp;refine⟨_,_,(MN ins.length il _ 1 (xs++(AN op++AN n)) (by simp) (by simp;omega)),?_⟩;simp;have hl:=my A B (BF Tryz.prog An .busy e0 [18] (lG 232 0) (lG 232 1000)) ins o3 o4 (xs++(AN op++(AN n++AN ins.length))) (by simp only[qG];omega) (.ref (J.length+5) 0) (J++[.cells [.v (.int .i64 op),.v (.int .i64 n),.v (.list (ins.map Ivl.V)),.v (.list (kids.map F.V))]]);simp[KO]at hl;refine AZ _ ?_ hl;rintro e ⟨se,sh⟩ ⟨rfl,h5,h6,hh⟩;simp only at h5 h6 hh;subst hh;simp[AA 232 15,h5,h6];refine⟨_,_,(MN kids.length kl _ 1 (xs++(AN op++(AN n++(AN ins.length++ins.flatMap Ce)))) (by simp) (by simp only[qG];omega)),?_⟩;simp[Ha];rfl
theorem iw (A B:Row) (e0:CH) (he:AF e0 5= .ref 2 0):∀(ns:List F),(∀g∈ns,g.ok1∧g.kids.length≤2^40)→∀xs:List Int,xs.length+(ns.flatMap C7).length≤2^43→
  RunY Tryz.prog An 4 (ns.map F.V) (KO A B (BF Tryz.prog An .ready e0 [18] (lG 232 0) (lG 232 1000)) xs) true (KO A B (BF Tryz.prog An .ready e0 [18] (lG 232 0) (lG 232 1000)) (xs++ns.flatMap C7)):=by
 intro ns;induction ns with
 |nil=>intro _ xs _;exact⟨rfl,by simp⟩
 |cons g ns ih=>
  intro hk xs hb;rw[qN,qG]at hb;obtain⟨h1,h2⟩:=hk g (by simp);refine⟨true,KO A B (BF Tryz.prog An .ready e0 [18] (lG 232 0) (lG 232 1000)) (xs++C7 g),rfl,λJ=>⟨_,ig A B e0 he g h1 h2 xs (by omega) J⟩,?_⟩;have:=ih (λx hx=>hk x (by simp[hx])) (xs++C7 g) (by rw[qG];omega);rw[qg]at this;exact this
theorem F.kids_le:∀f:F,∀g∈f.nodes,g.kids.length≤f.size:=by
 refine F.ind λop n ins kids ih g hg=>?_;rw[F.size_eq];rw[F.nodes_eq]at hg;rcases qL.1 hg with rfl|hg
 ·have:=F.kids_len kids;simp only[F.kids];omega
 ·obtain⟨k,hk,hg⟩:=rM.1 hg;have:=ih k hk g hg;have:=F.kid_size hk;omega
theorem de (f:F) (hok:f.ok) (hb:(By f).length≤2^43):PX 232 [f.V] [AH .u8 (if Bt f=0 then By f else []),.int .i64 (Bt f)]:=by
 refine BU 232 ?_;have h1:=(oP f hok).fsp;have h68:=jP f;have hsz:=hok.2;have hr:=iw (.cells f.cells) (.cells f.cells) (L3 [(5,.ref 2 0),(17,.func 147 [.ref 3 0])]) rfl f.nodes (λg hg=>⟨hok.1 g hg,by have:=F.kids_le f g hg;omega⟩) [] (by simpa[By]using hb);obtain⟨J,hp⟩:=Zk f hok 4 3 _ _ _ hr rfl;have e0:([]:List Int)++f.nodes.flatMap C7=By f:=rfl;rw[e0]at hp;generalize By f=bs at*;generalize Bt f=er at*;obtain⟨op,n,ins,kids⟩:=f;simp only[F.cells,F.op,F.n,F.ins,F.kids,F.V_eq]at*;simp only[Zw,At 232,AA 232 0,AA 232 1,AA 232 2,AV];simp at h1 h68;simp;refine⟨_,_,h1 _,?_⟩;by_cases h0:er=0
 ·subst h0;simp[AB,AA 232 4,AA 232 5,AS];refine⟨_,_,h68 _,?_⟩;simp;refine FK 147 [.ref 3 0] [] _ _ .ready rfl rfl hp rfl ?_;simp[EE,AA 232 16,KO];refine⟨_,_,(Sp _ 1 bs rfl (by omega)),?_⟩;simp[AD,AX 232,AH]
 ·simp[h0,AD,AA 232 3,AX 232,AH]
def isB (l:List Int):Prop:=∀x∈l,0≤x∧x <256
theorem isB.app {a b:List Int} (ha:isB a) (hb:isB b):isB (a++b):=λx hx=>(qW.1 hx).elim (ha x) (hb x)
theorem isB.flat {α:Type} {f:α→List Int} {l:List α} (h:∀x∈l,isB (f x)):isB (l.flatMap f):=λy hy=>by
 obtain⟨x,hx,hy⟩:=rM.1 hy;exact h x hx y hy
theorem isB.uvarF:∀(k:Nat) (n:Int),0≤n→n <128^(k+1)→isB (Go.Va.Ci k n)
 |0,n,h0,h1=>by
  have e:(128:Int)^(0+1)=128:=by decide
  intro x hx;simp[Go.Va.Ci]at hx;subst hx;omega
 |k+1,n,h0,h1=>by
  simp only[Go.Va.Ci];split
  ·intro x hx;simp at hx;omega
  ·intro x hx;rcases qL.1 hx with rfl|hx
   ·omega
   ·exact isB.uvarF k (n/128) (by omega) (tZ (by decide) (by rw[←rN];exact h1)) x hx
theorem isB.uvar {n:Int} (h0:0≤n) (h1:n <18446744073709551616):isB (Go.Va.CY n):=by
 have e:(128:Int)^(9+1)=1180591620717411303424:=by decide
 exact isB.uvarF 9 n h0 (by omega)
theorem isB.encI {n:Int} (h:i64 n):isB (Go.Va.AN n):=isB.uvar (HQ h).1 (HQ h).2
theorem isB.encInts {l:List Int} (h:∀n∈l,i64 n) (hl:l.length≤2^60):isB (Go.Va.Ah l):=(isB.uvar (by omega) (by omega)).app (isB.flat λn hn=>isB.encI (h n hn))
theorem isB.encRaw {l:List Int} (h:isB l) (hl:l.length≤2^60):isB (Go.Va.AY l):=(isB.uvar (by omega) (by omega)).app h
theorem isB.encF {f:F} (hf:f.ok):isB (Go.Va.By f):=by
 refine isB.flat λg hg=>?_;obtain⟨h1,h2,h3,h4⟩:=hf.1 g hg;have hk:=F.kids_le f g hg;have hs:=hf.2;exact(isB.encI h1).app ((isB.encI h2).app ((isB.encI (by unfold i64;omega)).app ((isB.flat λx hx=>isB.encInts (Ny (h3 x hx)) (by simp)).app (isB.encI (by unfold i64;omega)))))
theorem isB.encClms {l:List Clm} (hl:∀c∈l,c.ok) (hn:l.length≤2^40) (hb:(Go.Va.A8 l).length≤2^60):isB (Go.Va.A8 l):=by
 refine(isB.encI (by unfold i64;omega)).app (isB.flat λc hc=>?_);obtain⟨o1,o2,o3⟩:=hl c hc;unfold Go.Va.A8 at hb;rw[qG]at hb;have:=FH (f:=BT) hc;simp only[BT,qG,Go.Va.AY]at this;exact(isB.encInts o1 (by omega)).app (isB.encRaw (isB.encF o3) (by omega))
theorem Iq {e:Nat→Int}:∀(m k:Nat),F1 e k m=0→∀j,k≤j→j <k+m→e j=0
 |0,k,_,j,h1,h2=>by omega
 |m+1,k,h,j,h1,h2=>by
  simp only[F1]at h;split at h
  ·rename_i h3;exact absurd h h3
  ·rename_i h3;by_cases hj:j=k
   ·subst hj;simpa using h3
   ·exact Iq m (k+1) h j (by omega) (by omega)
theorem NP {l:List Clm} (h:CV l=0):∀c∈l,Bt c.body=0:=by
 intro c hc;unfold CV at h;split at h
 ·cases h
 ·obtain⟨k,hk,hx⟩:=List.getElem_of_mem hc;have:=Iq _ _ h k (by omega) (by omega);unfold Ji at this;rw[qH hk,hx]at this;simp only[L6]at this;split at this
  ·cases this
  ·split at this
   ·exact this
   ·cases this
theorem eC (l:List Clm) (hl:∀c∈l,c.ok) (hn:l.length≤2^40) (hb:(A8 l).length≤2^39):PX 130 [.list (l.map Clm.V)] [AH .u8 (if CV l=0 then A8 l else []),.int .i64 (CV l)]:=by
 refine BU 130 ?_;have p1:=(eA l hl hn).fsp;have hz:CV l=0→∀c∈l,Bt c.body=0:=NP;have il:i64 (l.length:Int):=by unfold i64;omega
 generalize CV l=e at*;unfold A8 at hb ⊢;rw[qG]at hb;simp only[Zw,At 130,AA 130 0,AA 130 1,AA 130 2,AV];simp;refine⟨_,_,p1 _,?_⟩;by_cases h:e=0
 ·subst h;have hz:=hz rfl;simp[AB,AA 130 4,AA 130 5];refine⟨_,_,(MN l.length il _ 0 [] rfl (by simp)),?_⟩;simp[AA 130 6];refine Al l.length (λk s=>s.e=[(5,.ref 0 0),(21,.v (.list (l.map Clm.V))),(22,.v (.int .i64 l.length)),(23,.v (.int .i64 k))]∧∃J,s.h=wr (AN l.length++(l.take k).flatMap BT)::J) ⟨rfl,[],by simp⟩ ?_;rintro k ⟨se,sh⟩ hk ⟨he,J,hh⟩;simp only at he hh;subst he hh;simp only[Zw,BA 130 0,AA 130 7];simp;by_cases hlt:k <l.length
  ·obtain⟨x,hx⟩:∃x,l[k]?=some x:=⟨_,qH hlt⟩;have hxm:=qJ hx;have hxe:l[k]=x:=(qK.1 hx).2;obtain⟨o1,o2,o3⟩:=hl x hxm;have hf:=hz x hxm;have hw:=Bo k;have hle:=Du l BT (k+1);rw[Av hlt,hxe,qG]at hle;have e:(l.take (k+1)).flatMap BT=(l.take k).flatMap BT++BT x:=by rw[Av hlt,hxe]
   have ec:(BT x).length=(Ah x.refs).length+(AY (By x.body)).length:=by simp[BT]
   have er:(AY (By x.body)).length=(CY (By x.body).length).length+(By x.body).length:=by simp[AY]
   have p2:=(de x.body o3 (by omega)).fsp;have hp100:=λh hr=>Ub x.refs o1 o2 h 0 (AN l.length++(l.take k).flatMap BT) hr (by rw[qG];omega);have hbytes:isB (By x.body):=isB.encF o3;have hp99:=λh hr=>cP (By x.body) hbytes (by omega) h 0 (AN l.length++((l.take k).flatMap BT++Ah x.refs)) hr (by simp only[qG];omega);rw[F.V_flds,hf]at p2;have e2:BT x=Ah x.refs++AY (By x.body):=rfl;generalize AY (By x.body)=B at*;generalize Ah x.refs=A at*;generalize By x.body=C at*;rw[if_pos (by omega),AB];simp only[AA 130 8,AA 130 9,AA 130 10];simp[AH]at p2 hp99 hp100;simp[hx,Clm.V,AH,AS];refine⟨_,_,p2 _,?_⟩;simp[AB,AA 130 12];refine⟨_,_,(hp100 _ rfl),?_⟩;simp[AA 130 13];refine⟨_,_,(hp99 _ rfl),?_⟩;simp[AA 130 14,hw,hlt,e,e2]
  ·have:k=l.length:=by omega
   subst this;rw[if_neg (by omega),AJ];simp[AA 130 15];refine⟨_,_,(Sp _ 0 (AN l.length++l.flatMap BT) rfl (by rw[qG];omega)),?_⟩;simp[AD,AX 130,AH]
 ·simp[h,AD,AA 130 3,AX 130,AH]
section
abbrev RS.B (s:RS):Prop:=∀x∈s.1,0≤x∧x <256
theorem RS.B.suf {s s':RS} (h:s.B) (hs:s'.1 <:+ s.1):s'.B:=λx hx=>h x (hs.subset hx)
theorem Af (s:RS):(Ad s).2.1 <:+ s.1:=Bi s
theorem My:∀(n:Nat) (s:RS),(Da n s).2.1 <:+ s.1
 |0,s=>List.suffix_refl _
 |n+1,s=>by
  rw[Da];split
  ·exact List.suffix_refl _
  ·exact(My n _).trans (Af s)
theorem CL (s:RS):(Bl s).2.1 <:+ s.1:=by
 unfold Bl;split
 ·exact Bi s
 ·split
  ·exact Bi s
  ·exact(List.drop_suffix _ _).trans (Bi s)
theorem FU {s:RS} (h:s.B):∀x∈(Bl s).1,0≤x∧x <256:=by
 unfold Bl;split
 ·simp
 ·split
  ·simp
  ·exact λx hx=>h x ((Bi s).subset (rK hx))
theorem DZ (s:RS):(Bl s).1.length≤s.1.length:=by
 have:=(Bi s).length_le;unfold Bl;split
 ·simp
 ·split
  ·simp
  ·simp only[qv];omega
theorem BN (s:RS):(Am s).2.1 <:+ s.1:=by
 unfold Am;split
 ·exact Bi s
 ·split
  ·exact Bi s
  ·split<;>exact(My _ _).trans (Bi s)
theorem Oy:∀(n:Nat) (s:RS),s.B→(Da n s).1.length≤n∧∀x∈(Da n s).1,i64 x
 |0,s,_=>⟨qM _,λx hx=>by cases hx⟩
 |n+1,s,h=>by
  rw[Da];split
  ·exact⟨rF _,λx hx=>by cases hx⟩
  ·obtain⟨h1,h2⟩:=Oy n (Ad s).2 (h.suf (Af s));refine⟨by simp only[qT];omega,λx hx=>?_⟩;rcases qL.1 hx with rfl|hx
   ·exact JK s h
   ·exact h2 x hx
theorem GJ (s:RS) (h:s.B):(Am s).1.length≤s.1.length∧∀x∈(Am s).1,i64 x:=by
 have h1:=(Bi s).length_le;have h2:=Oy (As s).1.toNat (As s).2 (h.suf (Bi s));unfold Am;split
 ·exact⟨rF _,λx hx=>by cases hx⟩
 ·split
  ·exact⟨rF _,λx hx=>by cases hx⟩
  ·split
   ·exact⟨rF _,λx hx=>by cases hx⟩
   ·exact⟨by omega,h2.2⟩
theorem US:∀(k:Nat) (acc m:Int) (rest:List Int),k≤9→0≤m→m <128^(k+1)→(k <9→0 <m)→0≤acc→acc+m*128^(9-k) <18446744073709551616→
  LS k acc (Ci k m++rest)=(acc+m*128^(9-k),rest,0)
 |0,acc,m,rest,_,h0,h1,h2,ha,hs=>by
  have e9:(128:Int)^9=9223372036854775808:=by decide
  have:=h2 (by omega);rw[sV,e9]at hs;obtain rfl:m=1:=by omega
  rfl
 |k+1,acc,m,rest,hk,h0,h1,h2,ha,hs=>by
  have hi2:9-(k+1)=8-k:=by omega
  rw[hi2]at hs ⊢;by_cases hl:m <128
  ·rw[show Ci (k+1) m=[m] by simp[Ci,hl],tN,LS,if_neg (by
    intro hh;have:=h2 (by omega);omega),if_pos hl]
  ·rw[show Ci (k+1) m=(128+m%128)::Ci k (m/128) by simp[Ci,hl],rz,LS,if_neg (by omega),if_neg (by omega)];have hc:(128+m%128)%128=m%128:=by omega
   have hp:(0:Int) <128^(8-k):=sF (by decide);have hp2:(128:Int)^(9-k)=128^(8-k)*128:=by rw[show 9-k=(8-k)+1 by omega];exact rN ..
   have hsum:acc+(m%128)*128^(8-k)+(m/128)*128^(9-k)=acc+m*128^(8-k):=by
    have:m*128^(8-k)=(m%128+128*(m/128))*128^(8-k):=by rw[Int.emod_add_mul_ediv]
    rw[this,hp2,sM];have:m/128*(128^(8-k)*128)=128*(m/128)*128^(8-k):=by
     rw[rX (128^(8-k)) 128,←sN,rX (m/128) 128]
    omega
   rw[hc,US k _ (m/128) rest (by omega) (by omega) (tZ (by decide) (by rw[←rN];exact h1)) (λ_=>by omega)
    (Int.add_nonneg ha (sS (by omega) (sE hp))) (by rw[hsum];exact hs),hsum]
theorem JJ {n:Int} (hn:u64 n) (rest:List Int):As (CY n++rest,0)=(n,(rest,0)):=by
 unfold u64 at hn;have e10:(128:Int)^(9+1)=1180591620717411303424:=by decide
 unfold As CY;rw[if_pos rfl,US 9 0 n rest (by omega) hn.1 (by omega) (by omega) (by omega) (by simpa using hn.2)];simp
theorem WL {n:Int} (h:i64 n):OV (Fy n)=n:=by
 unfold i64 at h;unfold Fy OV;split<;>split<;>omega
theorem BC {n:Int} (hn:i64 n) (rest:List Int):Ad (AN n++rest,0)=(n,(rest,0)):=by
 unfold Ad AN;rw[JJ (HQ hn),WL hn]
theorem IJ {xs:List Int} (hl:xs.length≤2^60) (rest:List Int):Bl (AY xs++rest,0)=(xs,(rest,0)):=by
 unfold Bl AY;rw[qg,JJ ⟨by omega,by omega⟩];have:¬(((xs++rest).length:Int) <xs.length):=by rw[qG];omega
 simp only[if_neg this,ne_eq,not_true_eq_false,if_false,qt,List.take_left,List.drop_left]
theorem Oz:∀(xs:List Int) (rest:List Int),(∀x∈xs,i64 x)→Da xs.length (xs.flatMap AN++rest,0)=(xs,(rest,0))
 |[],rest,_=>rfl
 |x::xs,rest,h=>by
  rw[qT,Da,if_neg (by simp),qN,qg,BC (h x (by simp)),Oz xs rest λy hy=>h y (by simp[hy])]
theorem Hc {xs:List Int} (hi:∀x∈xs,i64 x) (hl:xs.length≤2^60) (rest:List Int):Am (Ah xs++rest,0)=(xs,(rest,0)):=by
 have hg:=Je xs;unfold Am Ah;rw[qg,JJ ⟨by omega,by omega⟩];have:¬(((xs.flatMap AN++rest).length:Int) <xs.length):=by rw[qG];omega
 simp only[if_neg this,ne_eq,not_true_eq_false,if_false,qt,Oz xs rest hi]
def Bv (s:RS):Nat→RS
 |0=>s
 |k+1=>(Ad (Bv s k)).2
def Cb (s:RS) (k:Nat):Int:=(Ad (Bv s k)).1
theorem Gc (s:RS):∀k,(Bv s k).1 <:+ s.1
 |0=>List.suffix_refl _
 |k+1=>(Af _).trans (Gc s k)
theorem Ct {s:RS} (h:s.B) (k:Nat):(Bv s k).B:=h.suf (Gc s k)
theorem Be {s:RS} (h:s.B) (k:Nat):i64 (Cb s k):=JK _ (Ct h k)
def BX {α:Type} (k:Nat) (mk:RS→α):Nat→RS→List α×RS
 |0,s=>([],s)
 |n+1,s=>(mk s::(BX k mk n (Bv s k)).1,(BX k mk n (Bv s k)).2)
theorem Bk {α:Type} (k:Nat) (mk:RS→α):∀(n:Nat) (s:RS),(BX k mk n s).2.1 <:+ s.1
 |0,s=>List.suffix_refl _
 |n+1,s=>(Bk k mk n _).trans (Gc s k)
theorem DY {α:Type} (k:Nat) (mk:RS→α):∀(n:Nat) (s:RS),(BX k mk n s).1.length=n
 |0,s=>rfl
 |n+1,s=>by rw[BX];simp[DY k mk n]
theorem GF {α:Type} {k:Nat} {mk:RS→α} {p:α→Prop} (hp:∀s:RS,s.B→p (mk s)):∀(n:Nat) (s:RS),s.B→∀x∈(BX k mk n s).1,p x
 |0,s,_,x,hx=>by cases hx
 |n+1,s,h,x,hx=>by
  rw[BX]at hx;rcases qL.1 hx with rfl|hx
  ·exact hp s h
  ·exact GF hp n _ (Ct h k) x hx
theorem II {α:Type} {k:Nat} {mk:RS→α} {enc:α→List Int} {p:α→Prop} (h1:∀x rest,p x→mk (enc x++rest,0)=x∧Bv (enc x++rest,0) k=(rest,0)):
  ∀(l:List α) (rest:List Int),(∀x∈l,p x)→BX k mk l.length (l.flatMap enc++rest,0)=(l,(rest,0))
 |[],rest,_=>rfl
 |x::l,rest,h=>by
  obtain⟨e1,e2⟩:=h1 x (l.flatMap enc++rest) (h x (by simp));rw[qT,qN,qg,BX,e1,e2,II h1 l rest λy hy=>h y (by simp[hy])]
theorem GG {α:Type} (k:Nat) (mk:RS→α):∀(n:Nat) (s:RS),BX k mk (n+1) s=((BX k mk n s).1++[mk (BX k mk n s).2],Bv (BX k mk n s).2 k)
 |0,s=>rfl
 |n+1,s=>by
  rw[BX,GG k mk n (Bv s k)];rfl
theorem Hl {L:Nat} {n:Int} (hn:i64 n) (rest:List Int) (h0:0≤n) (hl:n≤L):CI L (AN n++rest,0)=n:=by
 unfold CI;rw[BC hn];rw[if_neg (by show ¬n <0;omega),if_neg (by show ¬(L:Int) <n;omega)]
def BP (s:RS):Dat:=⟨Cb s 0,Cb s 1,Cb s 2,Cb s 3⟩
def Bf (s:RS):Own:=⟨Cb s 0,Cb s 1,Cb s 2⟩
def Bp (s:RS):Lic:=⟨Cb s 0,Cb s 1,Cb s 2,Cb s 3⟩
variable {c:Int}
theorem Qd {a b d:Int} (ha:i64 a) (hb:i64 b) (hc:i64 c) (hd:i64 d) (rest:List Int) {s:RS} (hs:s=(AN a++(AN b++(AN c++(AN d++rest))),0)):
  Cb s 0=a∧Cb s 1=b∧Cb s 2=c∧Cb s 3=d∧Bv s 4=(rest,0):=by
 subst hs;have e1:Bv (AN a++(AN b++(AN c++(AN d++rest))),0) 1=(AN b++(AN c++(AN d++rest)),0):=by rw[Bv,Bv,BC ha]
 have e2:Bv (AN a++(AN b++(AN c++(AN d++rest))),0) 2=(AN c++(AN d++rest),0):=by rw[Bv,e1,BC hb]
 have e3:Bv (AN a++(AN b++(AN c++(AN d++rest))),0) 3=(AN d++rest,0):=by rw[Bv,e2,BC hc]
 refine⟨?_,?_,?_,?_,?_⟩
 ·unfold Cb;rw[Bv,BC ha]
 ·unfold Cb;rw[e1,BC hb]
 ·unfold Cb;rw[e2,BC hc]
 ·unfold Cb;rw[e3,BC hd]
 ·rw[Bv,e3,BC hd]
theorem Qe {a b:Int} (ha:i64 a) (hb:i64 b) (hc:i64 c) (rest:List Int) {s:RS} (hs:s=(AN a++(AN b++(AN c++rest)),0)):
  Cb s 0=a∧Cb s 1=b∧Cb s 2=c∧Bv s 3=(rest,0):=by
 subst hs;have e1:Bv (AN a++(AN b++(AN c++rest)),0) 1=(AN b++(AN c++rest),0):=by rw[Bv,Bv,BC ha]
 have e2:Bv (AN a++(AN b++(AN c++rest)),0) 2=(AN c++rest,0):=by rw[Bv,e1,BC hb]
 refine⟨?_,?_,?_,?_⟩
 ·unfold Cb;rw[Bv,BC ha]
 ·unfold Cb;rw[e1,BC hb]
 ·unfold Cb;rw[e2,BC hc]
 ·rw[Bv,e2,BC hc]
theorem UR (x:Dat) (rest:List Int) (h:x.ok):BP (CE x++rest,0)=x∧Bv (CE x++rest,0) 4=(rest,0):=by
 obtain⟨e1,e2,e3,e4,e5⟩:=Qd h.1 h.2.1 h.2.2.1 h.2.2.2 rest (s:=(CE x++rest,0)) (by simp[CE]);exact⟨by unfold BP;rw[e1,e2,e3,e4],e5⟩
theorem UP (x:Lic) (rest:List Int) (h:x.ok):Bp (CC x++rest,0)=x∧Bv (CC x++rest,0) 4=(rest,0):=by
 obtain⟨e1,e2,e3,e4,e5⟩:=Qd h.1 h.2.1 h.2.2.1 h.2.2.2 rest (s:=(CC x++rest,0)) (by simp[CC]);exact⟨by unfold Bp;rw[e1,e2,e3,e4],e5⟩
theorem UN (x:Own) (rest:List Int) (h:x.ok):Bf (CB x++rest,0)=x∧Bv (CB x++rest,0) 3=(rest,0):=by
 obtain⟨e1,e2,e3,e5⟩:=Qe h.1 h.2.1 h.2.2 rest (s:=(CB x++rest,0)) (by simp[CB]);exact⟨by unfold Bf;rw[e1,e2,e3],e5⟩
theorem UQ {s:RS} (h:s.B):(BP s).ok:=⟨Be h 0,Be h 1,Be h 2,Be h 3⟩
theorem UM {s:RS} (h:s.B):(Bf s).ok:=⟨Be h 0,Be h 1,Be h 2⟩
theorem UO {s:RS} (h:s.B):(Bp s).ok:=⟨Be h 0,Be h 1,Be h 2,Be h 3⟩
end
end Go.Va
