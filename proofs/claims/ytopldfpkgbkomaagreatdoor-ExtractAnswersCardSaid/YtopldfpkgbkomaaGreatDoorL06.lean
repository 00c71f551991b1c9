/- Laws that ExtractAnswers leans on, part 6. No condition of its own. -/
import Derived.Test.YtopldfpkgbkomaaGreatDoorL05
set_option linter.all false
set_option maxRecDepth 100000
set_option maxHeartbeats 4000000
noncomputable section
namespace Go.Va
open Go.Proofs
def End.b (x:End):Prop:=x.far≤1∧ -1≤x.far∧x.n≤1099511627776∧ -1099511627776≤x.n∧0≤x.d∧x.d≤1048576
def Iw (a b:End):Bool:=
 if a.far≠b.far then decide (a.far <b.far) else if a.far≠0 then false else if a.n*b.d≠b.n*a.d then decide (a.n*b.d <b.n*a.d) else !a.after&&b.after
theorem Sx {a b:Int} (h1:a≤1099511627776) (h2: -1099511627776≤a) (h3:0≤b) (h4:b≤1048576):a*b≤1152921504606846976∧ -1152921504606846976≤a*b:=by
 have:=qJ h1 h3;have:=qJ h2 h3;omega
theorem Zg (a b:End) (ha:a.b) (hb:b.b):PX 304 [a.V,b.V] [.bool (Iw a b)]:=by
 obtain⟨fa,na,da,aa⟩:=a;obtain⟨fb,nb,db,ab⟩:=b;unfold End.b at ha hb;simp only at ha hb;have m1:=Sx (a:=na) (b:=db) (by omega) (by omega) (by omega) (by omega);have m2:=Sx (a:=nb) (b:=da) (by omega) (by omega) (by omega) (by omega);have w1:IntKind.i64.wrap (na*db)=na*db:=AL;have w2:IntKind.i64.wrap (nb*da)=nb*da:=AL;refine BJ 304 ?_;unfold Iw;simp only[Ai 304,AE,AF,AK,AA 304 0,AX];simp only[End.V];simp[AA 304 1];by_cases h1:fa=fb
 ·subst h1;simp[AD,AA 304 3];by_cases h2:fa=0
  ·subst h2;simp[AS,AA 304 5,w1,w2,AA 304 6];by_cases h3:na*db=nb*da
   ·rw[h3];simp[AA 304 8];cases aa<;>simp[AB,AW 304]
   ·simp[h3,AB,AA 304 7,AW 304]
  ·simp[h2,AB,AA 304 4,AW 304]
 ·simp[h1,AB,AA 304 2,AW 304]
def Bh (n d:Int):Bool:=EA n d&&decide (n≤1073741824∧ -1073741824≤n∧d≤32768)
theorem fQ (n d:Int) (h1:i64 n) (h2:i64 d):PX 309 [A0 n d] [.bool (Bh n d)]:=by
 refine BJ 309 ?_;have hp:=(Uq n d h1 h2).fsp;unfold Bh;simp only[Ai 309,AE,AF,AA 309 0,AX];simp[A0]at hp ⊢;simp[AA 309 1];refine⟨_,_,hp _,?_⟩;cases EA n d with
 |false=>simp[AB,AW 309]
 |true=>
  by_cases b1: -1073741824≤n<;>by_cases b2:n≤1073741824<;>simp[b1,b2,AB,AW 309]
theorem Zf (n d:Int) (h1:i64 n) (h2:i64 d) (op inf:Bool):PX 308 [A0 n d,.bool op,.bool inf] [.bool (if inf then decide (n=0∧d=0)&& !op else Bh n d)]:=by
 refine BJ 308 ?_;have hp:=(fQ n d h1 h2).fsp;simp only[Ai 308,AE,AF,AK,AA 308 0,AX];simp[A0]at hp ⊢;cases inf with
 |false=>
  simp[AA 308 1,AD,AA 308 3];refine⟨_,_,hp _,?_⟩;simp[AB,AW 308]
 |true=>
  simp[AA 308 1,AA 308 2];by_cases b1:n=0<;>by_cases b2:d=0<;>simp[b1,b2,V.eqL,V.eq1,AB,AW 308]
theorem fU (l:List V):PX 305 [.list l] [.int .i64 (if l.length>32 then 4 else 0)]:=by
 refine BJ 305 ?_;simp only[Ai 305,AE,AF,AK,AA 305 0,AX];simp[AA 305 1];by_cases h:32 <(l.length:Int)
 ·have h':32 <l.length:=by omega
  simp[h,h',AB,AA 305 2,AW 305]
 ·have h':¬32 <l.length:=by omega
  simp[h,h',AD,AB,AA 305 3,AW 305]
def Lx (n d:Int) (op inf:Bool):Bool:=if inf then decide (n=0∧d=0)&& !op else Bh n d
def Dv (x:Ivl):Bool:=Lx x.ln x.ld x.lo x.li&&Lx x.hn x.hd x.ho x.hi&&Iw (Pi x) (Pm x)
theorem Nw {n d:Int} (h:Bh n d=true):1≤d∧d≤32768∧n≤1073741824∧ -1073741824≤n:=by
 unfold Bh at h;simp at h;have:=OE h.1;omega
theorem WP {x:Ivl} (h:Lx x.ln x.ld x.lo x.li=true):(Pi x).b:=by
 unfold Lx at h;unfold Pi End.b;split at h
 ·rename_i hi;simp[hi]
 ·rename_i hi;have:=Nw h;simp[hi];omega
theorem WS {x:Ivl} (h:Lx x.hn x.hd x.ho x.hi=true):(Pm x).b:=by
 unfold Lx at h;unfold Pm End.b;split at h
 ·rename_i hi;simp[hi]
 ·rename_i hi;have:=Nw h;simp[hi];omega
theorem Zr (x:Ivl) (hx:x.ok):PX 258 [x.V] [.bool (Dv x)]:=by
 refine BJ 258 ?_;have p1:=(Zf x.ln x.ld hx.1 hx.2.1 x.lo x.li).fsp;have p2:=(Zf x.hn x.hd hx.2.2.1 hx.2.2.2 x.ho x.hi).fsp;have p3:=(XP x).fsp;have p4:=λh1 h2=>(Zg (Pi x) (Pm x) (WP h1) (WS h2)).fsp;unfold Dv;have e1:∀n d op inf,(if inf then decide (n=0∧d=0)&& !op else Bh n d)=Lx n d op inf:=λ_ _ _ _=>rfl;rw[e1]at p1 p2;generalize hl1:Lx x.ln x.ld x.lo x.li=l1 at*;generalize hl2:Lx x.hn x.hd x.ho x.hi=l2 at*;simp only[Ai 258,AE,AF,AK,AA 258 0,AA 258 1,AX];simp[A0,Ivl.V]at p1 p2 p3 ⊢;simp[AA 258 2];refine⟨_,_,p1 _,?_⟩;simp;cases l1 with
 |false=>simp[AB,AA 258 3,AW 258]
 |true=>
  simp;refine⟨_,_,p2 _,?_⟩;simp;cases l2 with
  |false=>simp[AB,AA 258 3,AW 258]
  |true=>
   simp[AD,AA 258 4];refine⟨_,_,p3 _,?_⟩;have q:=p4 rfl rfl;simp[End.V]at q ⊢;refine⟨_,_,q _,?_⟩;simp[AB,AW 258]
section
theorem BI (h l:List Row) (n k:Nat) (hn:n=h.length+k):(h++l)[n]?=l[k]?:=by
 subst hn;rw[pC (by omega)];congr 1;omega
theorem CH (h l:List Row) (n k:Nat) (x:Row) (hn:n=h.length+k):(h++l).set n x=h++l.set k x:=by
 subst hn;rw[rH _ _ (by omega)];congr 2;omega
@[simp high] theorem Wl (h l:List Row):(h++l)[h.length]?=l[0]?:=BI h l _ 0 (by omega)
@[simp high] theorem WI (h l:List Row) (x:Row):(h++l).set (h.length) x=h++l.set 0 x:=CH h l _ 0 x (by omega)
@[simp high] theorem Wk (h l:List Row):(h++l)[h.length+1]?=l[1]?:=BI h l _ 1 (by omega)
@[simp high] theorem WH (h l:List Row) (x:Row):(h++l).set (h.length+1) x=h++l.set 1 x:=CH h l _ 1 x (by omega)
@[simp high] theorem Wj (h l:List Row):(h++l)[h.length+1+1]?=l[2]?:=BI h l _ 2 (by omega)
@[simp high] theorem WG (h l:List Row) (x:Row):(h++l).set (h.length+1+1) x=h++l.set 2 x:=CH h l _ 2 x (by omega)
@[simp high] theorem Wi (h l:List Row):(h++l)[h.length+2]?=l[2]?:=BI h l _ 2 (by omega)
@[simp high] theorem WE (h l:List Row) (x:Row):(h++l).set (h.length+2) x=h++l.set 2 x:=CH h l _ 2 x (by omega)
@[simp high] theorem Wh (h l:List Row):(h++l)[h.length+1+1+1]?=l[3]?:=BI h l _ 3 (by omega)
@[simp high] theorem WD (h l:List Row) (x:Row):(h++l).set (h.length+1+1+1) x=h++l.set 3 x:=CH h l _ 3 x (by omega)
@[simp high] theorem Wg (h l:List Row):(h++l)[h.length+3]?=l[3]?:=BI h l _ 3 (by omega)
@[simp high] theorem WC (h l:List Row) (x:Row):(h++l).set (h.length+3) x=h++l.set 3 x:=CH h l _ 3 x (by omega)
@[simp high] theorem Wf (h l:List Row):(h++l)[h.length+1+1+1+1]?=l[4]?:=BI h l _ 4 (by omega)
@[simp high] theorem WB (h l:List Row) (x:Row):(h++l).set (h.length+1+1+1+1) x=h++l.set 4 x:=CH h l _ 4 x (by omega)
@[simp high] theorem We (h l:List Row):(h++l)[h.length+4]?=l[4]?:=BI h l _ 4 (by omega)
@[simp high] theorem WA (h l:List Row) (x:Row):(h++l).set (h.length+4) x=h++l.set 4 x:=CH h l _ 4 x (by omega)
@[simp high] theorem Wd (h l:List Row):(h++l)[h.length+1+1+1+1+1]?=l[5]?:=BI h l _ 5 (by omega)
@[simp high] theorem V9 (h l:List Row) (x:Row):(h++l).set (h.length+1+1+1+1+1) x=h++l.set 5 x:=CH h l _ 5 x (by omega)
@[simp high] theorem Wc (h l:List Row):(h++l)[h.length+5]?=l[5]?:=BI h l _ 5 (by omega)
@[simp high] theorem V8 (h l:List Row) (x:Row):(h++l).set (h.length+5) x=h++l.set 5 x:=CH h l _ 5 x (by omega)
@[simp high] theorem Wb (h l:List Row):(h++l)[h.length+1+1+1+1+1+1]?=l[6]?:=BI h l _ 6 (by omega)
@[simp high] theorem V7 (h l:List Row) (x:Row):(h++l).set (h.length+1+1+1+1+1+1) x=h++l.set 6 x:=CH h l _ 6 x (by omega)
@[simp high] theorem Wa (h l:List Row):(h++l)[h.length+6]?=l[6]?:=BI h l _ 6 (by omega)
@[simp high] theorem V6 (h l:List Row) (x:Row):(h++l).set (h.length+6) x=h++l.set 6 x:=CH h l _ 6 x (by omega)
@[simp high] theorem WZ (h l:List Row):(h++l)[h.length+1+1+1+1+1+1+1]?=l[7]?:=BI h l _ 7 (by omega)
@[simp high] theorem V5 (h l:List Row) (x:Row):(h++l).set (h.length+1+1+1+1+1+1+1) x=h++l.set 7 x:=CH h l _ 7 x (by omega)
@[simp high] theorem WY (h l:List Row):(h++l)[h.length+7]?=l[7]?:=BI h l _ 7 (by omega)
@[simp high] theorem V4 (h l:List Row) (x:Row):(h++l).set (h.length+7) x=h++l.set 7 x:=CH h l _ 7 x (by omega)
@[simp high] theorem WX (h l:List Row):(h++l)[h.length+1+1+1+1+1+1+1+1]?=l[8]?:=BI h l _ 8 (by omega)
@[simp high] theorem V2 (h l:List Row) (x:Row):(h++l).set (h.length+1+1+1+1+1+1+1+1) x=h++l.set 8 x:=CH h l _ 8 x (by omega)
@[simp high] theorem WW (h l:List Row):(h++l)[h.length+8]?=l[8]?:=BI h l _ 8 (by omega)
@[simp high] theorem V1 (h l:List Row) (x:Row):(h++l).set (h.length+8) x=h++l.set 8 x:=CH h l _ 8 x (by omega)
variable {s:St} {Q:AExit→St→Prop}
section
variable {P:Program} {GL:Aa}
theorem AY {c:AC} (n:Nat) (I:Nat→St→Prop) (h0:I 0 s)
  (h:∀k s,k≤n→I k s→awp P GL c (λe s'=>match e with| .normal=>k <n∧I (k+1) s'|e=>Q e s') s):awp P GL (.loop c) Q s:=by
 refine⟨λm s=>∃k,k≤n∧m=n-k∧I k s,⟨n,0,pg _,rfl,h0⟩,?_⟩;rintro m s ⟨k,hk,rfl,hi⟩;refine Ad c ?_ (h k s hk hi);intro e s' h;cases e with
 |normal=>obtain⟨hlt,hi'⟩:=h;exact⟨n-(k+1),by omega,k+1,hlt,rfl,hi'⟩
 |exit i=>exact h
 |ret=>exact h
end
def DZ (l:List Ivl) (k:Nat):Bool:=
 match l[k]? with
 |none=>true
 |some x=> !Dv x||(match k with|0=>false|j+1=>match l[j]? with|none=>true|some y=> !Iw (Pm y) (Pi x))
def GX (l:List Ivl):Int:=if (List.range l.length).any (DZ l) then 1 else if l.length>32 then 4 else 0
variable {k n:Nat}
theorem D3 {f:Nat→Bool} (hk:k <n) (h:f k=true):(List.range n).any f=true:=by
 rw[qN];exact⟨k,by simpa using hk,h⟩
theorem FJ {f:Nat→Bool} (h:∀k <n,f k=false):(List.range n).any f=false:=by
 rw[pu];intro k hk;simpa using h k (by simpa using hk)
theorem Ql {x:Ivl} (h:Dv x=true):(Pi x).b∧(Pm x).b:=by
 unfold Dv at h;simp at h;exact⟨WP h.1.1,WS h.1.2⟩
theorem gm (l:List Ivl) (hl:∀x∈l,x.ok) (hn:l.length≤2^40):PX 246 [.list (l.map Ivl.V)] [.int .i64 (GX l)]:=by
 refine BJ 246 ?_;simp only[Ai 246,AE,AF,AM,AA 246 0,AA 246 1,AX];simp;refine AY l.length (λk s=>s.e=[(0,.v (.list (l.map Ivl.V))),(9,.v (.list (l.map Ivl.V))),(10,.v (.int .i64 l.length)),(11,.v (.int .i64 k))]∧∀j <k,DZ l j=false) ⟨rfl,by omega⟩ ?_;rintro k ⟨se,sh⟩ hk ⟨he,hg⟩;simp only at he;subst he;simp only[Zw,A8 246 0,AA 246 2];simp;by_cases h1:k <l.length
 ·obtain⟨x,hx⟩:∃x,l[k]?=some x:=⟨_,oI h1⟩;have hxm:=oK hx;have hw:=Bb k;have p1:=(Zr x (hl x hxm)).fsp;rw[if_pos (by omega),AD];simp only[AA 246 3];simp[Ivl.V]at p1;simp[hx,Ivl.V,AO,AA 246 4];refine⟨_,_,p1 _,?_⟩;simp;cases hgx:Dv x with
  |false=>
   have hb:DZ l k=true:=by unfold DZ;rw[hx];simp[hgx]
   simp[AB,AA 246 5,AW 246];unfold GX;rw[D3 h1 hb];rfl
  |true=>
   simp[AD,AA 246 6];cases k with
   |zero=>
    have hb:DZ l 0=false:=by unfold DZ;rw[hx];simp[hgx]
    simp[AA 246 11];simp at hw;simp[hw,h1];exact hb
   |succ j=>
    obtain⟨y,hy⟩:∃y,l[j]?=some y:=⟨_,oI (by omega)⟩;have hgy:Dv y=true:=by
     have:=hg j (by omega);unfold DZ at this;rw[hy]at this;simp at this;exact this.1
    have p2:=(XP x).fsp;have p3:=(XP y).fsp;have p4:=(Zg (Pm y) (Pi x) (Ql hgy).2 (Ql hgx).1).fsp;have hw2:IntKind.i64.wrap (j:Int)=j:=AL;simp[Ivl.V,End.V]at p2 p3 p4;simp[AA 246 7];refine⟨_,_,p2 _,?_⟩;simp[AO,AA 246 8,hw2,hy,Ivl.V];refine⟨_,_,p3 _,?_⟩;simp[AA 246 9];refine⟨_,_,p4 _,?_⟩;simp;cases hle:Iw (Pm y) (Pi x)with
    |false=>
     have hb:DZ l (j+1)=true:=by unfold DZ;rw[hx];simp[hgx,hy,hle]
     simp[AB,AA 246 10,AW 246];unfold GX;rw[D3 h1 hb];rfl
    |true=>
     have hb:DZ l (j+1)=false:=by unfold DZ;rw[hx];simp[hgx,hy,hle]
     simp at hw;simp[AA 246 11,hw,h1];intro i hi;rcases om i (j+1)with h|h
     ·exact hg i h
     ·have:i=j+1:=by omega
      subst this;exact hb
 ·have hk2:k=l.length:=by omega
  subst hk2;rw[if_neg (by omega),AJ];have p5:=(fU (l.map Ivl.V)).fsp;simp at p5;simp[AA 246 12];refine⟨_,_,p5 _,?_⟩;simp[AB,AW 246];unfold GX;rw[FJ hg];simp
end
theorem Za (n d:Int) (h1:i64 n) (h2:i64 d):PX 351 [A0 n d] [.bool (Bh n d)]:=by
 refine BJ 351 ?_;have hp:=(XW n d h1 h2).fsp;unfold Bh;simp only[Ai 351,AE,AF,AA 351 0,AX];simp[A0]at hp ⊢;simp[AA 351 1];refine⟨_,_,hp _,?_⟩;cases EA n d with
 |false=>simp[AB,AW 351]
 |true=>
  by_cases b1: -1073741824≤n<;>by_cases b2:n≤1073741824<;>simp[b1,b2,AB,AW 351]
theorem Ta (a b c d:Int):V.eqL [0,0] [.int .i64 a,.int .i64 b] [.int .i64 c,.int .i64 d]=some (decide (a=c∧b=d)):=by
 by_cases h1:a=c<;>by_cases h2:b=d<;>simp[V.eqL,V.eq1,h1,h2]
def Ivl.cells (x:Ivl):List D:=[.v (.int .i64 x.ln),.v (.int .i64 x.ld),.v (.int .i64 x.hn),.v (.int .i64 x.hd),.v (.bool x.lo),.v (.bool x.ho),.v (.bool x.li),.v (.bool x.hi)]
theorem bF (x:Ivl) (Q:AExit→St→Prop)
  (hQ:Q .normal ⟨[(1,.ref 0 0),(30,.v (.bool ((x.li&&(!decide (x.ln=0∧x.ld=0)||x.lo))||(x.hi&&(!decide (x.hn=0∧x.hd=0)||x.ho)))))],[.cells x.cells]⟩):
  awp Tryz.prog Ah (.reg (oG 332 1) [1,30]) Q ⟨[(1,.ref 0 0)],[.cells x.cells]⟩:=by
 obtain⟨ln,ld,hn,hd,lo,ho,li,hi⟩:=x;rw[AF];simp only[Ivl.cells]at*;simp only[AA 332 1];have e1:=Ta ln ld 0 0;have e2:=Ta hn hd 0 0;generalize decide (ln=0∧ld=0)=A at*;generalize decide (hn=0∧hd=0)=B at*;cases li with
 |false=>
  cases hi with
  |false=>simpa using hQ
  |true=>cases B<;>cases ho<;>simp[e2]<;>simpa using hQ
 |true=>
  cases hi with
  |false=>cases A<;>cases lo<;>simp[e1]<;>simpa using hQ
  |true=>cases A<;>cases B<;>cases lo<;>cases ho<;>simp[e1,e2]<;>simpa using hQ
theorem bE (x:Ivl) (sl sh:Bool) (Q:AExit→St→Prop)
  (hQ:Q .normal ⟨[(1,.ref 0 0),(52,.v (.bool ((!x.li&& !sl)||(!x.hi&& !sh))))],[.cells x.cells]⟩):
  awp Tryz.prog Ah (.reg (oG 332 5) [1,52]) Q ⟨[(1,.ref 0 0),(3,.v (.bool sl)),(4,.v (.bool sh))],[.cells x.cells]⟩:=by
 obtain⟨ln,ld,hn,hd,lo,ho,li,hi⟩:=x;rw[AF];simp only[Ivl.cells]at*;simp only[AA 332 5];cases li<;>cases hi<;>cases sl<;>cases sh<;>simp<;>simpa using hQ
def EY (x:Ivl):Bool:=
 if (x.li&&(!decide (x.ln=0∧x.ld=0)||x.lo))||(x.hi&&(!decide (x.hn=0∧x.hd=0)||x.ho)) then false
 else if (!x.li&& !Bh x.ln x.ld)||(!x.hi&& !Bh x.hn x.hd) then false
 else if x.li||x.hi then true
 else if x.ln=x.hn∧x.ld=x.hd then !x.lo&& !x.ho
 else G9 x.ln x.ld x.hn x.hd
theorem Zc (x:Ivl) (hx:x.ok):PX 332 [x.V] [.bool (EY x)]:=by
 refine BJ 332 ?_;have p1:=(Za x.ln x.ld hx.1 hx.2.1).fsp;have p2:=(Za x.hn x.hd hx.2.2.1 hx.2.2.2).fsp;obtain⟨R,hR⟩:∃R,EY x=R:=⟨_,rfl⟩;rw[hR];unfold EY at hR;rw[Ai 332];rw[AE,AF];simp[AA 332 0,AX,Ivl.V];rw[AE,AE];refine bF x _ ?_;generalize ((x.li&&(!decide (x.ln=0∧x.ld=0)||x.lo))||(x.hi&&(!decide (x.hn=0∧x.hd=0)||x.ho)))=g1 at*
 simp[AK];cases g1 with
 |true=>simp at hR;simp[AE,AF,AB,AA 332 2,AW 332,hR]
 |false=>
  simp only[AD,if_neg sK]at hR ⊢;rw[AE,AF];simp[A0]at p1 p2;simp[AA 332 3,Ivl.cells];refine⟨_,_,p1 _,?_⟩;simp;rw[AE,AF];simp[AA 332 4];refine⟨_,_,p2 _,?_⟩;simp;rw[AE,AE];refine bE x (Bh x.ln x.ld) (Bh x.hn x.hd) _ ?_;have hs1:((!x.li&& !Bh x.ln x.ld)||(!x.hi&& !Bh x.hn x.hd))=false→x.li=false→x.hi=false→EA x.ln x.ld=true∧EA x.hn x.hd=true:=by
   intro h h1 h2;rw[h1,h2]at h;simp[Bh]at h;exact⟨h.1.1,h.2.1⟩
  generalize ((!x.li&& !Bh x.ln x.ld)||(!x.hi&& !Bh x.hn x.hd))=g2 at*
  simp[AK];cases g2 with
  |true=>simp at hR;simp[AE,AF,AB,AA 332 6,AW 332,hR]
  |false=>
   simp only[AD,if_neg sK]at hR ⊢;obtain⟨ln,ld,hn,hd,lo,ho,li,hi⟩:=x;simp only[Ivl.cells]at*;rw[AE,AE,AF];cases li with
   |true=>simp at hR;simp[AA 332 7,AK,AE,AF,AB,AA 332 8,AW 332,hR]
   |false=>
    cases hi with
    |true=>simp at hR;simp[AA 332 7,AK,AE,AF,AB,AA 332 8,AW 332,hR]
    |false=>
     obtain⟨o1,o2⟩:=hs1 trivial rfl rfl;have p3:=(Un ln ld hn hd o1 o2).fsp;simp[A0]at p3;simp[AA 332 7,AK,AD];rw[AE,AE,AF];simp[AA 332 9,Ta];by_cases h3:ln=hn∧ld=hd
     ·simp[h3]at hR;cases lo<;>cases ho<;>simp at hR<;>simp[h3,AK,AE,AF,AB,AA 332 10,AW 332,hR]
     ·simp[h3]at hR;simp[h3,AK,AD,AE,AF,AA 332 11];refine⟨_,_,p3 _,?_⟩;simp[AB,AW 332,hR]
def Li (a b:Ivl):Bool:=
 if a.hi||b.li then false else if a.hn=b.ln∧a.hd=b.ld then a.ho&&b.lo else G9 a.hn a.hd b.ln b.ld
theorem I4 {x:Ivl} (h:EY x=true) (hi:x.hi=false):Bh x.hn x.hd=true:=by
 unfold EY at h;by_cases c1:((x.li&&(!decide (x.ln=0∧x.ld=0)||x.lo))||(x.hi&&(!decide (x.hn=0∧x.hd=0)||x.ho)))=true
 ·rw[if_pos c1]at h;cases h
 ·rw[if_neg c1]at h;by_cases c2:((!x.li&& !Bh x.ln x.ld)||(!x.hi&& !Bh x.hn x.hd))=true
  ·rw[if_pos c2]at h;cases h
  ·rw[hi]at c2;simp at c2;exact c2.2
theorem I3 {x:Ivl} (h:EY x=true) (hi:x.li=false):Bh x.ln x.ld=true:=by
 unfold EY at h;by_cases c1:((x.li&&(!decide (x.ln=0∧x.ld=0)||x.lo))||(x.hi&&(!decide (x.hn=0∧x.hd=0)||x.ho)))=true
 ·rw[if_pos c1]at h;cases h
 ·rw[if_neg c1]at h;by_cases c2:((!x.li&& !Bh x.ln x.ld)||(!x.hi&& !Bh x.hn x.hd))=true
  ·rw[if_pos c2]at h;cases h
  ·rw[hi]at c2;simp at c2;exact c2.1
theorem Ce {n d:Int} (h:Bh n d=true):EA n d=true:=by unfold Bh at h;simp at h;exact h.1
theorem ep (x y:Ivl) (gx:EY x=true) (gy:EY y=true):PX 353 [x.V,y.V] [.bool (Li x y)]:=by
 refine BJ 353 ?_;have q1:=I4 gx;have q2:=I3 gy;obtain⟨R,hR⟩:∃R,Li x y=R:=⟨_,rfl⟩;rw[hR];unfold Li at hR;obtain⟨ln,ld,hn,hd,lo,ho,li,hi⟩:=x;obtain⟨ln',ld',hn',hd',lo',ho',li',hi'⟩:=y;simp only[Ivl.V]at*;rw[Ai 353];rw[AE,AF];simp[AA 353 0,AX];rw[AE,AE,AF];cases hi with
 |true=>simp at hR;simp[AA 353 1,AK,AE,AF,AB,AA 353 2,AW 353,hR]
 |false=>
  cases li' with
  |true=>simp at hR;simp[AA 353 1,AK,AE,AF,AB,AA 353 2,AW 353,hR]
  |false=>
   have p3:=(Un hn hd ln' ld' (Ce (q1 rfl)) (Ce (q2 rfl))).fsp;simp[A0]at p3;simp[AA 353 1,AK,AD];rw[AE,AE,AF];simp[AA 353 3,Ta];by_cases h3:hn=ln'∧hd=ld'
   ·simp[h3]at hR;cases ho<;>simp at hR<;>simp[h3,AK,AE,AF,AB,AA 353 4,AW 353,hR]
   ·simp[h3]at hR;simp[h3,AK,AD,AE,AF,AA 353 5];refine⟨_,_,p3 _,?_⟩;simp[AB,AW 353,hR]
theorem Me {b a d:Int} (hc:Int.gcd b a=1) (h3:b ∣ a*d):b ∣ d:=by
 have h3n:b.natAbs ∣ a.natAbs*d.natAbs:=by rw[←Int.natAbs_mul];exact Int.natAbs_dvd_natAbs.2 h3
 have hc':Nat.Coprime b.natAbs a.natAbs:=hc;exact Int.natAbs_dvd_natAbs.1 (hc'.dvd_of_dvd_mul_left h3n)
theorem K2 {a b c d:Int} (h1:EA a b=true) (h2:EA c d=true) (h:a*d=c*b):a=c∧b=d:=by
 unfold EA at h1 h2;simp at h1 h2;obtain⟨b1,_,_,_,g1⟩:=h1;obtain⟨d1,_,_,_,g2⟩:=h2;have e1:b ∣ d:=by
  have h3:b ∣ a*d:=by rw[h];exact Int.dvd_mul_left _ _
  have:Int.gcd b a=1:=by rw[Int.gcd_comm];exact g1
  exact Me this h3
 have e2:d ∣ b:=by
  have h3:d ∣ c*b:=by rw[←h];exact Int.dvd_mul_left _ _
  have:Int.gcd d c=1:=by rw[Int.gcd_comm];exact g2
  exact Me this h3
 have e3:b=d:=by
  have:=Int.le_of_dvd (by omega) e1;have:=Int.le_of_dvd (by omega) e2;omega
 subst e3;exact⟨Int.eq_of_mul_eq_mul_right (by omega) h,rfl⟩
theorem Fq (x:Ivl):EY x=Dv x:=by
 obtain⟨ln,ld,hn,hd,lo,ho,li,hi⟩:=x;unfold Dv EY Lx;cases li<;>cases hi<;>simp only[Pi,Pm,Iw]
 ·cases hs1:Bh ln ld<;>cases hs2:Bh hn hd<;>simp
  have r:=K2 (Ce hs1) (Ce hs2);by_cases h3:ln=hn∧ld=hd
  ·obtain⟨rfl,rfl⟩:=h3;simp
  ·rw[if_neg h3];rw[if_neg (λh=>h3 (r h))];rfl
 ·generalize hA:decide (hn=0∧hd=0)=A;cases A<;>cases ho<;>cases Bh ln ld<;>simp
 ·simp
 ·simp
theorem QB (x y:Ivl) (gx:EY x=true) (gy:EY y=true):Li x y=Iw (Pm x) (Pi y):=by
 have q1:=I4 gx;have q2:=I3 gy;obtain⟨ln,ld,hn,hd,lo,ho,li,hi⟩:=x;obtain⟨ln',ld',hn',hd',lo',ho',li',hi'⟩:=y;unfold Li;cases hi<;>cases li'<;>simp only[Pi,Pm,Iw]
 ·simp at q1 q2;have r:=K2 (Ce q1) (Ce q2);by_cases h3:hn=ln'∧hd=ld'
  ·obtain⟨rfl,rfl⟩:=h3;simp
  ·simp;rw[if_neg h3,if_neg (λh=>h3 (r h))];rfl
 ·simp
 ·simp
 ·simp
theorem eu (l:List Ivl) (hl:∀x∈l,x.ok) (hn:l.length≤2^40):PX 338 [.list (l.map Ivl.V)] [.int .i64 (GX l)]:=by
 refine BJ 338 ?_;simp only[Ai 338,AE,AF,AM,AA 338 0,AA 338 1,AX];simp;refine Al l.length (λk=>⟨[(0,.v (.list (l.map Ivl.V))),(3,.v (.int .i64 k))],[]⟩) (λk=>∀j <k,DZ l j=false) (by simp) (by omega) ?_;intro k hk hg;simp only[Zw,A8 338 0,AA 338 2];simp;by_cases h1:k <l.length
 ·obtain⟨x,hx⟩:∃x,l[k]?=some x:=⟨_,oI h1⟩;have hxm:=oK hx;have hw:=Bb k;have p1:=(Zc x (hl x hxm)).fsp;rw[if_pos (by omega),AD];simp only[AA 338 4];simp[Ivl.V]at p1;simp[hx,Ivl.V];refine⟨_,_,p1 _,?_⟩;simp only[AS,AA 338 5];simp;cases hgx:EY x with
  |false=>
   have hb:DZ l k=true:=by unfold DZ;rw[hx];simp[←Fq,hgx]
   simp[AB,AA 338 6,AW 338];unfold GX;rw[D3 h1 hb];rfl
  |true=>
   cases k with
   |zero=>
    have hb:DZ l 0=false:=by unfold DZ;rw[hx];simp[←Fq,hgx]
    simp at hw;simp[AD,AA 338 3,hw,h1];exact hb
   |succ j=>
    obtain⟨y,hy⟩:∃y,l[j]?=some y:=⟨_,oI (by omega)⟩;have hgy:EY y=true:=by
     have:=hg j (by omega);unfold DZ at this;rw[hy]at this;simp at this;rw[Fq];exact this.1
    have p2:=ep y x hgy hgx;rw[QB y x hgy hgx]at p2;have hw2:IntKind.i64.wrap (j:Int)=j:=AL;simp[Ivl.V]at p2;have h9:(0:Int) <(j:Int)+1:=by omega
    have h10:(0:Int)≤(j:Int)+1:=by omega
    simp[hw2,hy,Ivl.V,hx,h10];refine⟨_,_,⟨rfl,rfl⟩,_,p2,?_⟩;simp;cases hle:Iw (Pm y) (Pi x)with
    |false=>
     have hb:DZ l (j+1)=true:=by unfold DZ;rw[hx];simp[hy,hle]
     simp[AB,AA 338 6,AW 338];unfold GX;rw[D3 h1 hb];rfl
    |true=>
     have hb:DZ l (j+1)=false:=by unfold DZ;rw[hx];simp[←Fq,hgx,hy,hle]
     simp at hw;simp[AD,AA 338 3,hw,h1];intro i hi;rcases om i (j+1)with h|h
     ·exact hg i h
     ·have:i=j+1:=by omega
      subst this;exact hb
 ·have hk2:k=l.length:=by omega
  subst hk2;rw[if_neg (by omega),AJ];simp only[AA 338 7];unfold GX;rw[FJ hg];by_cases h:32 <(l.length:Int)
  ·have h':32 <l.length:=by omega
   simp[h,h',AB,AA 338 8,AW 338]
  ·have h':¬32 <l.length:=by omega
   simp[h,h',AD,AB,AA 338 9,AW 338]
end Go.Va
