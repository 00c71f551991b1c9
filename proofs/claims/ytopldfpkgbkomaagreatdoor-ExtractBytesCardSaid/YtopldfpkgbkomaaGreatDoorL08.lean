/- Laws that ExtractBytes leans on, part 8. No condition of its own. -/
import Derived.Test.YtopldfpkgbkomaaGreatDoorL07
set_option linter.all false
set_option maxRecDepth 100000
set_option maxHeartbeats 4000000
noncomputable section
namespace Go.Va
open Go.Proofs
def End.b (x:End):Prop:=x.far≤1∧ -1≤x.far∧x.n≤1099511627776∧ -1099511627776≤x.n∧0≤x.d∧x.d≤1048576
def JT (a b:End):Bool:=
 if a.far≠b.far then decide (a.far <b.far) else if a.far≠0 then false else if a.n*b.d≠b.n*a.d then decide (a.n*b.d <b.n*a.d) else !a.after&&b.after
theorem Um {a b:Int} (h1:a≤1099511627776) (h2: -1099511627776≤a) (h3:0≤b) (h4:b≤1048576):a*b≤1152921504606846976∧ -1152921504606846976≤a*b:=by
 have:=ry h1 h3;have:=ry h2 h3;omega
theorem dN (a b:End) (ha:a.b) (hb:b.b):PX 304 [a.V,b.V] [.bool (JT a b)]:=by
 obtain⟨fa,na,da,aa⟩:=a;obtain⟨fb,nb,db,ab⟩:=b;unfold End.b at ha hb;simp only at ha hb;have m1:=Um (a:=na) (b:=db) (by omega) (by omega) (by omega) (by omega);have m2:=Um (a:=nb) (b:=da) (by omega) (by omega) (by omega) (by omega);have w1:IntKind.i64.wrap (na*db)=na*db:=AQ;have w2:IntKind.i64.wrap (nb*da)=nb*da:=AQ;refine BU 304 ?_;unfold JT;simp only[At 304,AE,AG,AL,AA 304 0,AV];simp only[End.V];simp[AA 304 1];by_cases h1:fa=fb
 ·subst h1;simp[AB,AA 304 3];by_cases h2:fa=0
  ·subst h2;simp[AW,AA 304 5,w1,w2,AA 304 6];by_cases h3:na*db=nb*da
   ·rw[h3];simp[AA 304 8];cases aa<;>simp[AD,AX 304]
   ·simp[h3,AD,AA 304 7,AX 304]
  ·simp[h2,AD,AA 304 4,AX 304]
 ·simp[h1,AD,AA 304 2,AX 304]
def Bz (n d:Int):Bool:=En n d&&decide (n≤1073741824∧ -1073741824≤n∧d≤32768)
theorem jl (n d:Int) (h1:i64 n) (h2:i64 d):PX 309 [BL n d] [.bool (Bz n d)]:=by
 refine BU 309 ?_;have hp:=(Zi n d h1 h2).fsp;unfold Bz;simp only[At 309,AE,AG,AA 309 0,AV];simp[BL]at hp ⊢;simp[AA 309 1];refine⟨_,_,hp _,?_⟩;cases En n d with
 |false=>simp[AD,AX 309]
 |true=>
  by_cases b1: -1073741824≤n<;>by_cases b2:n≤1073741824<;>simp[b1,b2,AD,AX 309]
theorem dM (n d:Int) (h1:i64 n) (h2:i64 d) (op inf:Bool):PX 308 [BL n d,.bool op,.bool inf] [.bool (if inf then decide (n=0∧d=0)&& !op else Bz n d)]:=by
 refine BU 308 ?_;have hp:=(jl n d h1 h2).fsp;simp only[At 308,AE,AG,AL,AA 308 0,AV];simp[BL]at hp ⊢;cases inf with
 |false=>
  simp[AA 308 1,AB,AA 308 3];refine⟨_,_,hp _,?_⟩;simp[AD,AX 308]
 |true=>
  simp[AA 308 1,AA 308 2];by_cases b1:n=0<;>by_cases b2:d=0<;>simp[b1,b2,V.eqL,V.eq1,AD,AX 308]
theorem jn (l:List V):PX 305 [.list l] [.int .i64 (if l.length>32 then 4 else 0)]:=by
 refine BU 305 ?_;simp only[At 305,AE,AG,AL,AA 305 0,AV];simp[AA 305 1];by_cases h:32 <(l.length:Int)
 ·have h':32 <l.length:=by omega
  simp[h,h',AD,AA 305 2,AX 305]
 ·have h':¬32 <l.length:=by omega
  simp[h,h',AB,AD,AA 305 3,AX 305]
def Mb (n d:Int) (op inf:Bool):Bool:=if inf then decide (n=0∧d=0)&& !op else Bz n d
def FY (x:Ivl):Bool:=Mb x.ln x.ld x.lo x.li&&Mb x.hn x.hd x.ho x.hi&&JT (Qq x) (Qt x)
theorem Og {n d:Int} (h:Bz n d=true):1≤d∧d≤32768∧n≤1073741824∧ -1073741824≤n:=by
 unfold Bz at h;simp at h;have:=PE h.1;omega
theorem Yb {x:Ivl} (h:Mb x.ln x.ld x.lo x.li=true):(Qq x).b:=by
 unfold Mb at h;unfold Qq End.b;split at h
 ·rename_i hi;simp[hi]
 ·rename_i hi;have:=Og h;simp[hi];omega
theorem Yd {x:Ivl} (h:Mb x.hn x.hd x.ho x.hi=true):(Qt x).b:=by
 unfold Mb at h;unfold Qt End.b;split at h
 ·rename_i hi;simp[hi]
 ·rename_i hi;have:=Og h;simp[hi];omega
theorem kN (x:Ivl) (hx:x.ok):PX 258 [x.V] [.bool (FY x)]:=by
 refine BU 258 ?_;have p1:=(dM x.ln x.ld hx.1 hx.2.1 x.lo x.li).fsp;have p2:=(dM x.hn x.hd hx.2.2.1 hx.2.2.2 x.ho x.hi).fsp;have p3:=(Zh x).fsp;have p4:=λh1 h2=>(dN (Qq x) (Qt x) (Yb h1) (Yd h2)).fsp;unfold FY;have e1:∀n d op inf,(if inf then decide (n=0∧d=0)&& !op else Bz n d)=Mb n d op inf:=λ_ _ _ _=>rfl;rw[e1]at p1 p2;generalize hl1:Mb x.ln x.ld x.lo x.li=l1 at*;generalize hl2:Mb x.hn x.hd x.ho x.hi=l2 at*;simp only[At 258,AE,AG,AL,AA 258 0,AA 258 1,AV];simp[BL,Ivl.V]at p1 p2 p3 ⊢;simp[AA 258 2];refine⟨_,_,p1 _,?_⟩;simp;cases l1 with
 |false=>simp[AD,AA 258 3,AX 258]
 |true=>
  simp;refine⟨_,_,p2 _,?_⟩;simp;cases l2 with
  |false=>simp[AD,AA 258 3,AX 258]
  |true=>
   simp[AB,AA 258 4];refine⟨_,_,p3 _,?_⟩;have q:=p4 rfl rfl;simp[End.V]at q ⊢;refine⟨_,_,q _,?_⟩;simp[AD,AX 258]
section
theorem Bn (h l:List Row) (n k:Nat) (hn:n=h.length+k):(h++l)[n]?=l[k]?:=by
 subst hn;rw[ql (by omega)];congr 1;omega
theorem Cf (h l:List Row) (n k:Nat) (x:Row) (hn:n=h.length+k):(h++l).set n x=h++l.set k x:=by
 subst hn;rw[sP _ _ (by omega)];congr 2;omega
@[simp high] theorem Yw (h l:List Row):(h++l)[h.length]?=l[0]?:=Bn h l _ 0 (by omega)
@[simp high] theorem YT (h l:List Row) (x:Row):(h++l).set (h.length) x=h++l.set 0 x:=Cf h l _ 0 x (by omega)
@[simp high] theorem Yv (h l:List Row):(h++l)[h.length+1]?=l[1]?:=Bn h l _ 1 (by omega)
@[simp high] theorem YS (h l:List Row) (x:Row):(h++l).set (h.length+1) x=h++l.set 1 x:=Cf h l _ 1 x (by omega)
@[simp high] theorem Yu (h l:List Row):(h++l)[h.length+1+1]?=l[2]?:=Bn h l _ 2 (by omega)
@[simp high] theorem YR (h l:List Row) (x:Row):(h++l).set (h.length+1+1) x=h++l.set 2 x:=Cf h l _ 2 x (by omega)
@[simp high] theorem Yt (h l:List Row):(h++l)[h.length+2]?=l[2]?:=Bn h l _ 2 (by omega)
@[simp high] theorem YQ (h l:List Row) (x:Row):(h++l).set (h.length+2) x=h++l.set 2 x:=Cf h l _ 2 x (by omega)
@[simp high] theorem Ys (h l:List Row):(h++l)[h.length+1+1+1]?=l[3]?:=Bn h l _ 3 (by omega)
@[simp high] theorem YP (h l:List Row) (x:Row):(h++l).set (h.length+1+1+1) x=h++l.set 3 x:=Cf h l _ 3 x (by omega)
@[simp high] theorem Yr (h l:List Row):(h++l)[h.length+3]?=l[3]?:=Bn h l _ 3 (by omega)
@[simp high] theorem YO (h l:List Row) (x:Row):(h++l).set (h.length+3) x=h++l.set 3 x:=Cf h l _ 3 x (by omega)
@[simp high] theorem Yq (h l:List Row):(h++l)[h.length+1+1+1+1]?=l[4]?:=Bn h l _ 4 (by omega)
@[simp high] theorem YN (h l:List Row) (x:Row):(h++l).set (h.length+1+1+1+1) x=h++l.set 4 x:=Cf h l _ 4 x (by omega)
@[simp high] theorem Yp (h l:List Row):(h++l)[h.length+4]?=l[4]?:=Bn h l _ 4 (by omega)
@[simp high] theorem YM (h l:List Row) (x:Row):(h++l).set (h.length+4) x=h++l.set 4 x:=Cf h l _ 4 x (by omega)
@[simp high] theorem Yo (h l:List Row):(h++l)[h.length+1+1+1+1+1]?=l[5]?:=Bn h l _ 5 (by omega)
@[simp high] theorem YL (h l:List Row) (x:Row):(h++l).set (h.length+1+1+1+1+1) x=h++l.set 5 x:=Cf h l _ 5 x (by omega)
@[simp high] theorem Yn (h l:List Row):(h++l)[h.length+5]?=l[5]?:=Bn h l _ 5 (by omega)
@[simp high] theorem YK (h l:List Row) (x:Row):(h++l).set (h.length+5) x=h++l.set 5 x:=Cf h l _ 5 x (by omega)
@[simp high] theorem Ym (h l:List Row):(h++l)[h.length+1+1+1+1+1+1]?=l[6]?:=Bn h l _ 6 (by omega)
@[simp high] theorem YJ (h l:List Row) (x:Row):(h++l).set (h.length+1+1+1+1+1+1) x=h++l.set 6 x:=Cf h l _ 6 x (by omega)
@[simp high] theorem Yl (h l:List Row):(h++l)[h.length+6]?=l[6]?:=Bn h l _ 6 (by omega)
@[simp high] theorem YI (h l:List Row) (x:Row):(h++l).set (h.length+6) x=h++l.set 6 x:=Cf h l _ 6 x (by omega)
@[simp high] theorem Yk (h l:List Row):(h++l)[h.length+1+1+1+1+1+1+1]?=l[7]?:=Bn h l _ 7 (by omega)
@[simp high] theorem YH (h l:List Row) (x:Row):(h++l).set (h.length+1+1+1+1+1+1+1) x=h++l.set 7 x:=Cf h l _ 7 x (by omega)
@[simp high] theorem Yj (h l:List Row):(h++l)[h.length+7]?=l[7]?:=Bn h l _ 7 (by omega)
@[simp high] theorem YG (h l:List Row) (x:Row):(h++l).set (h.length+7) x=h++l.set 7 x:=Cf h l _ 7 x (by omega)
@[simp high] theorem Yi (h l:List Row):(h++l)[h.length+1+1+1+1+1+1+1+1]?=l[8]?:=Bn h l _ 8 (by omega)
@[simp high] theorem YF (h l:List Row) (x:Row):(h++l).set (h.length+1+1+1+1+1+1+1+1) x=h++l.set 8 x:=Cf h l _ 8 x (by omega)
@[simp high] theorem Yh (h l:List Row):(h++l)[h.length+8]?=l[8]?:=Bn h l _ 8 (by omega)
@[simp high] theorem YE (h l:List Row) (x:Row):(h++l).set (h.length+8) x=h++l.set 8 x:=Cf h l _ 8 x (by omega)
variable {s:St} {Q:AExit→St→Prop}
section
variable {P:Program} {GL:Ac}
theorem Al {c:AC} (n:Nat) (I:Nat→St→Prop) (h0:I 0 s)
  (h:∀k s,k≤n→I k s→awp P GL c (λe s'=>match e with| .normal=>k <n∧I (k+1) s'|e=>Q e s') s):awp P GL (.loop c) Q s:=by
 refine⟨λm s=>∃k,k≤n∧m=n-k∧I k s,⟨n,0,rF _,rfl,h0⟩,?_⟩;rintro m s ⟨k,hk,rfl,hi⟩;refine AZ c ?_ (h k s hk hi);intro e s' h;cases e with
 |normal=>obtain⟨hlt,hi'⟩:=h;exact⟨n-(k+1),by omega,k+1,hlt,rfl,hi'⟩
 |exit i=>exact h
 |ret=>exact h
end
def Dv (l:List Ivl) (k:Nat):Bool:=
 match l[k]? with
 |none=>true
 |some x=> !FY x||(match k with|0=>false|j+1=>match l[j]? with|none=>true|some y=> !JT (Qt y) (Qq x))
def G5 (l:List Ivl):Int:=if (List.range l.length).any (Dv l) then 1 else if l.length>32 then 4 else 0
variable {k n:Nat}
theorem ER {f:Nat→Bool} (hk:k <n) (h:f k=true):(List.range n).any f=true:=by
 rw[sT];exact⟨k,by simpa using hk,h⟩
theorem Fi {f:Nat→Bool} (h:∀k <n,f k=false):(List.range n).any f=false:=by
 rw[sD];intro k hk;simpa using h k (by simpa using hk)
theorem SE {x:Ivl} (h:FY x=true):(Qq x).b∧(Qt x).b:=by
 unfold FY at h;simp at h;exact⟨Yb h.1.1,Yd h.1.2⟩
theorem kU (l:List Ivl) (hl:∀x∈l,x.ok) (hn:l.length≤2^40):PX 246 [.list (l.map Ivl.V)] [.int .i64 (G5 l)]:=by
 refine BU 246 ?_;simp only[At 246,AE,AG,AU,AA 246 0,AA 246 1,AV];simp;refine Al l.length (λk s=>s.e=[(0,.v (.list (l.map Ivl.V))),(9,.v (.list (l.map Ivl.V))),(10,.v (.int .i64 l.length)),(11,.v (.int .i64 k))]∧∀j <k,Dv l j=false) ⟨rfl,by omega⟩ ?_;rintro k ⟨se,sh⟩ hk ⟨he,hg⟩;simp only at he;subst he;simp only[Zw,BA 246 0,AA 246 2];simp;by_cases h1:k <l.length
 ·obtain⟨x,hx⟩:∃x,l[k]?=some x:=⟨_,qH h1⟩;have hxm:=qJ hx;have hw:=Bo k;have p1:=(kN x (hl x hxm)).fsp;rw[if_pos (by omega),AB];simp only[AA 246 3];simp[Ivl.V]at p1;simp[hx,Ivl.V,AS,AA 246 4];refine⟨_,_,p1 _,?_⟩;simp;cases hgx:FY x with
  |false=>
   have hb:Dv l k=true:=by unfold Dv;rw[hx];simp[hgx]
   simp[AD,AA 246 5,AX 246];unfold G5;rw[ER h1 hb];rfl
  |true=>
   simp[AB,AA 246 6];cases k with
   |zero=>
    have hb:Dv l 0=false:=by unfold Dv;rw[hx];simp[hgx]
    simp[AA 246 11];simp at hw;simp[hw,h1];exact hb
   |succ j=>
    obtain⟨y,hy⟩:∃y,l[j]?=some y:=⟨_,qH (by omega)⟩;have hgy:FY y=true:=by
     have:=hg j (by omega);unfold Dv at this;rw[hy]at this;simp at this;exact this.1
    have p2:=(Zh x).fsp;have p3:=(Zh y).fsp;have p4:=(dN (Qt y) (Qq x) (SE hgy).2 (SE hgx).1).fsp;have hw2:IntKind.i64.wrap (j:Int)=j:=AQ;simp[Ivl.V,End.V]at p2 p3 p4;simp[AA 246 7];refine⟨_,_,p2 _,?_⟩;simp[AS,AA 246 8,hw2,hy,Ivl.V];refine⟨_,_,p3 _,?_⟩;simp[AA 246 9];refine⟨_,_,p4 _,?_⟩;simp;cases hle:JT (Qt y) (Qq x)with
    |false=>
     have hb:Dv l (j+1)=true:=by unfold Dv;rw[hx];simp[hgx,hy,hle]
     simp[AD,AA 246 10,AX 246];unfold G5;rw[ER h1 hb];rfl
    |true=>
     have hb:Dv l (j+1)=false:=by unfold Dv;rw[hx];simp[hgx,hy,hle]
     simp at hw;simp[AA 246 11,hw,h1];intro i hi;rcases qi i (j+1)with h|h
     ·exact hg i h
     ·have:i=j+1:=by omega
      subst this;exact hb
 ·have hk2:k=l.length:=by omega
  subst hk2;rw[if_neg (by omega),AJ];have p5:=(jn (l.map Ivl.V)).fsp;simp at p5;simp[AA 246 12];refine⟨_,_,p5 _,?_⟩;simp[AD,AX 246];unfold G5;rw[Fi hg];simp
end
theorem dH (n d:Int) (h1:i64 n) (h2:i64 d):PX 351 [BL n d] [.bool (Bz n d)]:=by
 refine BU 351 ?_;have hp:=(Zl n d h1 h2).fsp;unfold Bz;simp only[At 351,AE,AG,AA 351 0,AV];simp[BL]at hp ⊢;simp[AA 351 1];refine⟨_,_,hp _,?_⟩;cases En n d with
 |false=>simp[AD,AX 351]
 |true=>
  by_cases b1: -1073741824≤n<;>by_cases b2:n≤1073741824<;>simp[b1,b2,AD,AX 351]
theorem XT (a b c d:Int):V.eqL [0,0] [.int .i64 a,.int .i64 b] [.int .i64 c,.int .i64 d]=some (decide (a=c∧b=d)):=by
 by_cases h1:a=c<;>by_cases h2:b=d<;>simp[V.eqL,V.eq1,h1,h2]
def Ivl.cells (x:Ivl):List D:=[.v (.int .i64 x.ln),.v (.int .i64 x.ld),.v (.int .i64 x.hn),.v (.int .i64 x.hd),.v (.bool x.lo),.v (.bool x.ho),.v (.bool x.li),.v (.bool x.hi)]
theorem fD (x:Ivl) (Q:AExit→St→Prop)
  (hQ:Q .normal ⟨[(1,.ref 0 0),(30,.v (.bool ((x.li&&(!decide (x.ln=0∧x.ld=0)||x.lo))||(x.hi&&(!decide (x.hn=0∧x.hd=0)||x.ho)))))],[.cells x.cells]⟩):
  awp Tryz.prog An (.reg (oG 332 1) [1,30]) Q ⟨[(1,.ref 0 0)],[.cells x.cells]⟩:=by
 obtain⟨ln,ld,hn,hd,lo,ho,li,hi⟩:=x;rw[AG];simp only[Ivl.cells]at*;simp only[AA 332 1];have e1:=XT ln ld 0 0;have e2:=XT hn hd 0 0;generalize decide (ln=0∧ld=0)=A at*;generalize decide (hn=0∧hd=0)=B at*;cases li with
 |false=>
  cases hi with
  |false=>simpa using hQ
  |true=>cases B<;>cases ho<;>simp[e2]<;>simpa using hQ
 |true=>
  cases hi with
  |false=>cases A<;>cases lo<;>simp[e1]<;>simpa using hQ
  |true=>cases A<;>cases B<;>cases lo<;>cases ho<;>simp[e1,e2]<;>simpa using hQ
theorem fC (x:Ivl) (sl sh:Bool) (Q:AExit→St→Prop)
  (hQ:Q .normal ⟨[(1,.ref 0 0),(52,.v (.bool ((!x.li&& !sl)||(!x.hi&& !sh))))],[.cells x.cells]⟩):
  awp Tryz.prog An (.reg (oG 332 5) [1,52]) Q ⟨[(1,.ref 0 0),(3,.v (.bool sl)),(4,.v (.bool sh))],[.cells x.cells]⟩:=by
 obtain⟨ln,ld,hn,hd,lo,ho,li,hi⟩:=x;rw[AG];simp only[Ivl.cells]at*;simp only[AA 332 5];cases li<;>cases hi<;>cases sl<;>cases sh<;>simp<;>simpa using hQ
def Ep (x:Ivl):Bool:=
 if (x.li&&(!decide (x.ln=0∧x.ld=0)||x.lo))||(x.hi&&(!decide (x.hn=0∧x.hd=0)||x.ho)) then false
 else if (!x.li&& !Bz x.ln x.ld)||(!x.hi&& !Bz x.hn x.hd) then false
 else if x.li||x.hi then true
 else if x.ln=x.hn∧x.ld=x.hd then !x.lo&& !x.ho
 else Hm x.ln x.ld x.hn x.hd
theorem dK (x:Ivl) (hx:x.ok):PX 332 [x.V] [.bool (Ep x)]:=by
 refine BU 332 ?_;have p1:=(dH x.ln x.ld hx.1 hx.2.1).fsp;have p2:=(dH x.hn x.hd hx.2.2.1 hx.2.2.2).fsp;obtain⟨R,hR⟩:∃R,Ep x=R:=⟨_,rfl⟩;rw[hR];unfold Ep at hR;rw[At 332];rw[AE,AG];simp[AA 332 0,AV,Ivl.V];rw[AE,AE];refine fD x _ ?_;generalize ((x.li&&(!decide (x.ln=0∧x.ld=0)||x.lo))||(x.hi&&(!decide (x.hn=0∧x.hd=0)||x.ho)))=g1 at*
 simp[AL];cases g1 with
 |true=>simp at hR;simp[AE,AG,AD,AA 332 2,AX 332,hR]
 |false=>
  simp only[AB,if_neg tz]at hR ⊢;rw[AE,AG];simp[BL]at p1 p2;simp[AA 332 3,Ivl.cells];refine⟨_,_,p1 _,?_⟩;simp;rw[AE,AG];simp[AA 332 4];refine⟨_,_,p2 _,?_⟩;simp;rw[AE,AE];refine fC x (Bz x.ln x.ld) (Bz x.hn x.hd) _ ?_;have hs1:((!x.li&& !Bz x.ln x.ld)||(!x.hi&& !Bz x.hn x.hd))=false→x.li=false→x.hi=false→En x.ln x.ld=true∧En x.hn x.hd=true:=by
   intro h h1 h2;rw[h1,h2]at h;simp[Bz]at h;exact⟨h.1.1,h.2.1⟩
  generalize ((!x.li&& !Bz x.ln x.ld)||(!x.hi&& !Bz x.hn x.hd))=g2 at*
  simp[AL];cases g2 with
  |true=>simp at hR;simp[AE,AG,AD,AA 332 6,AX 332,hR]
  |false=>
   simp only[AB,if_neg tz]at hR ⊢;obtain⟨ln,ld,hn,hd,lo,ho,li,hi⟩:=x;simp only[Ivl.cells]at*;rw[AE,AE,AG];cases li with
   |true=>simp at hR;simp[AA 332 7,AL,AE,AG,AD,AA 332 8,AX 332,hR]
   |false=>
    cases hi with
    |true=>simp at hR;simp[AA 332 7,AL,AE,AG,AD,AA 332 8,AX 332,hR]
    |false=>
     obtain⟨o1,o2⟩:=hs1 trivial rfl rfl;have p3:=(Wn ln ld hn hd o1 o2).fsp;simp[BL]at p3;simp[AA 332 7,AL,AB];rw[AE,AE,AG];simp[AA 332 9,XT];by_cases h3:ln=hn∧ld=hd
     ·simp[h3]at hR;cases lo<;>cases ho<;>simp at hR<;>simp[h3,AL,AE,AG,AD,AA 332 10,AX 332,hR]
     ·simp[h3]at hR;simp[h3,AL,AB,AE,AG,AA 332 11];refine⟨_,_,p3 _,?_⟩;simp[AD,AX 332,hR]
end Go.Va
