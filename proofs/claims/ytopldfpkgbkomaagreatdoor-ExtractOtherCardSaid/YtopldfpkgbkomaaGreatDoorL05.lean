/- Part 5 of the proof that ExtractOther returns true for every input and leaves its arguments alone. Condition: the variable that the row lists holds what the text of the program lays. Texts joined here: VwN VwO VsB VwQ. -/
import Derived.Test.YtopldfpkgbkomaaGreatDoorL03
set_option linter.all false
set_option maxRecDepth 100000
namespace Go.Va
open Go.Proofs
theorem AJS (n d:Int) (h1:i64 n) (h2:i64 d):PX 351 [A5 n d] [.bool (BV n d)]:=by
 refine AK ARo rfl ?_;have hp:=(AJu n d h1 h2).fsp;unfold BV;simp only[AMm,AB,AA,AE,cH,AY];simp[A5]at hp ⊢;simp[cG];refine⟨_,_,hp _,?_⟩;cases okR n d with
 |false=>simp[AF,cK]
 |true=>
  by_cases b1: -1073741824≤n<;>by_cases b2:n≤1073741824<;>simp[b1,b2,AF,cK]
theorem Xt (a b c d:Int):V.eqL [0,0] [.int .i64 a,.int .i64 b] [.int .i64 c,.int .i64 d]=some (decide (a=c∧b=d)):=by
 by_cases h1:a=c<;>by_cases h2:b=d<;>simp[V.eqL,V.eq1,h1,h2]
def Ivl.cells (x:Ivl):List D:=[.v (.int .i64 x.ln),.v (.int .i64 x.ld),.v (.int .i64 x.hn),.v (.int .i64 x.hd),.v (.bool x.lo),.v (.bool x.ho),.v (.bool x.li),.v (.bool x.hi)]
set_option maxHeartbeats 2000000 in
theorem AKK (x:Ivl) (Q:AExit→St→Prop)
  (hQ:Q .normal ⟨[(1,.ref 0 0),(30,.v (.bool ((x.li&&(!decide (x.ln=0∧x.ld=0)||x.lo))||(x.hi&&(!decide (x.hn=0∧x.hd=0)||x.ho)))))],[.cells x.cells]⟩):
  awp Tryz.prog GLx (.reg Qe [1,30]) Q ⟨[(1,.ref 0 0)],[.cells x.cells]⟩:=by
 obtain⟨ln,ld,hn,hd,lo,ho,li,hi⟩:=x;rw[AA];simp only[Ivl.cells]at*;simp only[Qe];have e1:=Xt ln ld 0 0;have e2:=Xt hn hd 0 0;generalize decide (ln=0∧ld=0)=A at*;generalize decide (hn=0∧hd=0)=B at*;cases li with
 |false=>
  cases hi with
  |false=>simpa using hQ
  |true=>cases B<;>cases ho<;>simp[e2]<;>simpa using hQ
 |true=>
  cases hi with
  |false=>cases A<;>cases lo<;>simp[e1]<;>simpa using hQ
  |true=>cases A<;>cases B<;>cases lo<;>cases ho<;>simp[e1,e2]<;>simpa using hQ
set_option maxHeartbeats 2000000 in
theorem AKJ (x:Ivl) (sl sh:Bool) (Q:AExit→St→Prop)
  (hQ:Q .normal ⟨[(1,.ref 0 0),(52,.v (.bool ((!x.li&& !sl)||(!x.hi&& !sh))))],[.cells x.cells]⟩):
  awp Tryz.prog GLx (.reg Qd [1,52]) Q ⟨[(1,.ref 0 0),(3,.v (.bool sl)),(4,.v (.bool sh))],[.cells x.cells]⟩:=by
 obtain⟨ln,ld,hn,hd,lo,ho,li,hi⟩:=x;rw[AA];simp only[Ivl.cells]at*;simp only[Qd];cases li<;>cases hi<;>cases sl<;>cases sh<;>simp<;>simpa using hQ
def ET (x:Ivl):Bool:=
 if (x.li&&(!decide (x.ln=0∧x.ld=0)||x.lo))||(x.hi&&(!decide (x.hn=0∧x.hd=0)||x.ho)) then false
 else if (!x.li&& !BV x.ln x.ld)||(!x.hi&& !BV x.hn x.hd) then false
 else if x.li||x.hi then true
 else if x.ln=x.hn∧x.ld=x.hd then !x.lo&& !x.ho
 else TL x.ln x.ld x.hn x.hd
set_option maxHeartbeats 2000000 in
theorem APS (x:Ivl) (hx:x.ok):PX 332 [x.V] [.bool (ET x)]:=by
 refine AK ARu rfl ?_;have p1:=(AJS x.ln x.ld hx.1 hx.2.1).fsp;have p2:=(AJS x.hn x.hd hx.2.2.1 hx.2.2.2).fsp;obtain⟨R,hR⟩:∃R,ET x=R:=⟨_,rfl⟩;rw[hR];unfold ET at hR;unfold AMv;rw[AB,AA];simp[dJ,AY,Ivl.V];rw[AB,AB];refine AKK x _ ?_;generalize ((x.li&&(!decide (x.ln=0∧x.ld=0)||x.lo))||(x.hi&&(!decide (x.hn=0∧x.hd=0)||x.ho)))=g1 at*
 simp[AE];cases g1 with
 |true=>simp at hR;simp[AB,AA,AF,dH,Kj,hR]
 |false=>
  simp only[AD,if_neg AWV]at hR ⊢;rw[AB,AA];simp[A5]at p1 p2;simp[dG,Ivl.cells];refine⟨_,_,p1 _,?_⟩;simp;rw[AB,AA];simp[dF,Ivl.cells];refine⟨_,_,p2 _,?_⟩;simp;rw[AB,AB];refine AKJ x (BV x.ln x.ld) (BV x.hn x.hd) _ ?_;have hs1:((!x.li&& !BV x.ln x.ld)||(!x.hi&& !BV x.hn x.hd))=false→x.li=false→x.hi=false→okR x.ln x.ld=true∧okR x.hn x.hd=true:=by
   intro h h1 h2;rw[h1,h2]at h;simp[BV]at h;exact⟨h.1.1,h.2.1⟩
  generalize ((!x.li&& !BV x.ln x.ld)||(!x.hi&& !BV x.hn x.hd))=g2 at*
  simp[AE];cases g2 with
  |true=>simp at hR;simp[AB,AA,AF,dE,Kj,hR]
  |false=>
   simp only[AD,if_neg AWV]at hR ⊢;obtain⟨ln,ld,hn,hd,lo,ho,li,hi⟩:=x;simp only[Ivl.cells]at*;rw[AB,AB,AA];cases li with
   |true=>simp at hR;simp[Mj,AE,AB,AA,AF,Qc,Kj,hR]
   |false=>
    cases hi with
    |true=>simp at hR;simp[Mj,AE,AB,AA,AF,Qc,Kj,hR]
    |false=>
     obtain⟨o1,o2⟩:=hs1 trivial rfl rfl;have p3:=(AJR ln ld hn hd o1 o2).fsp;simp[A5]at p3;simp[Mj,AE,AD];rw[AB,AB,AA];simp[dD,Xt];by_cases h3:ln=hn∧ld=hd
     ·simp[h3]at hR;cases lo<;>cases ho<;>simp at hR<;>simp[h3,AE,AB,AA,AF,UL,Kj,hR]
     ·simp[h3]at hR;simp[h3,AE,AD,AB,AA,UK];refine⟨_,_,p3 _,?_⟩;simp[AF,Kj,hR]
def Ky (a b:Ivl):Bool:=
 if a.hi||b.li then false else if a.hn=b.ln∧a.hd=b.ld then a.ho&&b.lo else TL a.hn a.hd b.ln b.ld
theorem Od {x:Ivl} (h:ET x=true) (hi:x.hi=false):BV x.hn x.hd=true:=by
 unfold ET at h;by_cases c1:((x.li&&(!decide (x.ln=0∧x.ld=0)||x.lo))||(x.hi&&(!decide (x.hn=0∧x.hd=0)||x.ho)))=true
 ·rw[if_pos c1]at h;cases h
 ·rw[if_neg c1]at h;by_cases c2:((!x.li&& !BV x.ln x.ld)||(!x.hi&& !BV x.hn x.hd))=true
  ·rw[if_pos c2]at h;cases h
  ·rw[hi]at c2;simp at c2;exact c2.2
theorem Oc {x:Ivl} (h:ET x=true) (hi:x.li=false):BV x.ln x.ld=true:=by
 unfold ET at h;by_cases c1:((x.li&&(!decide (x.ln=0∧x.ld=0)||x.lo))||(x.hi&&(!decide (x.hn=0∧x.hd=0)||x.ho)))=true
 ·rw[if_pos c1]at h;cases h
 ·rw[if_neg c1]at h;by_cases c2:((!x.li&& !BV x.ln x.ld)||(!x.hi&& !BV x.hn x.hd))=true
  ·rw[if_pos c2]at h;cases h
  ·rw[hi]at c2;simp at c2;exact c2.1
theorem EI {n d:Int} (h:BV n d=true):okR n d=true:=by unfold BV at h;simp at h;exact h.1
theorem APO (x y:Ivl) (gx:ET x=true) (gy:ET y=true):PX 353 [x.V,y.V] [.bool (Ky x y)]:=by
 refine AK ARm rfl ?_;have q1:=Od gx;have q2:=Oc gy;obtain⟨R,hR⟩:∃R,Ky x y=R:=⟨_,rfl⟩;rw[hR];unfold Ky at hR;obtain⟨ln,ld,hn,hd,lo,ho,li,hi⟩:=x;obtain⟨ln',ld',hn',hd',lo',ho',li',hi'⟩:=y;simp only[Ivl.V]at*;unfold AMk;rw[AB,AA];simp[cD,AY];rw[AB,AB,AA];cases hi with
 |true=>simp at hR;simp[Mh,AE,AB,AA,AF,QV,O4,hR]
 |false=>
  cases li' with
  |true=>simp at hR;simp[Mh,AE,AB,AA,AF,QV,O4,hR]
  |false=>
   have p3:=(AJR hn hd ln' ld' (EI (q1 rfl)) (EI (q2 rfl))).fsp;simp[A5]at p3;simp[Mh,AE,AD];rw[AB,AB,AA];simp[cC,Xt];by_cases h3:hn=ln'∧hd=ld'
   ·simp[h3]at hR;cases ho<;>simp at hR<;>simp[h3,AE,AB,AA,AF,cB,O4,hR]
   ·simp[h3]at hR;simp[h3,AE,AD,AB,AA,cA];refine⟨_,_,p3 _,?_⟩;simp[AF,O4,hR]
theorem Lj {b a d:Int} (hc:Int.gcd b a=1) (h3:b ∣ a*d):b ∣ d:=by
 have h3n:b.natAbs ∣ a.natAbs*d.natAbs:=by rw[←Int.natAbs_mul];exact Int.natAbs_dvd_natAbs.2 h3
 have hc':Nat.Coprime b.natAbs a.natAbs:=hc;exact Int.natAbs_dvd_natAbs.1 (hc'.dvd_of_dvd_mul_left h3n)
theorem OC {a b c d:Int} (h1:okR a b=true) (h2:okR c d=true) (h:a*d=c*b):a=c∧b=d:=by
 unfold okR at h1 h2;simp at h1 h2;obtain⟨b1,_,_,_,g1⟩:=h1;obtain⟨d1,_,_,_,g2⟩:=h2;have e1:b ∣ d:=by
  have h3:b ∣ a*d:=by rw[h];exact Int.dvd_mul_left _ _
  have:Int.gcd b a=1:=by rw[Int.gcd_comm];exact g1
  exact Lj this h3
 have e2:d ∣ b:=by
  have h3:d ∣ c*b:=by rw[←h];exact Int.dvd_mul_left _ _
  have:Int.gcd d c=1:=by rw[Int.gcd_comm];exact g2
  exact Lj this h3
 have e3:b=d:=by
  have:=Int.le_of_dvd (by omega) e1;have:=Int.le_of_dvd (by omega) e2;omega
 subst e3;exact⟨Int.eq_of_mul_eq_mul_right (by omega) h,rfl⟩
theorem Gj (x:Ivl):ET x=Ej x:=by
 obtain⟨ln,ld,hn,hd,lo,ho,li,hi⟩:=x;unfold Ej ET K8;cases li<;>cases hi<;>simp only[loE,hiE,Hr]
 ·cases hs1:BV ln ld<;>cases hs2:BV hn hd<;>simp
  have r:=OC (EI hs1) (EI hs2);by_cases h3:ln=hn∧ld=hd
  ·obtain⟨rfl,rfl⟩:=h3;simp
  ·rw[if_neg h3];rw[if_neg (λh=>h3 (r h))];rfl
 ·generalize hA:decide (hn=0∧hd=0)=A;cases A<;>cases ho<;>cases BV ln ld<;>simp
 ·simp
 ·simp
theorem Sw (x y:Ivl) (gx:ET x=true) (gy:ET y=true):Ky x y=Hr (hiE x) (loE y):=by
 have q1:=Od gx;have q2:=Oc gy;obtain⟨ln,ld,hn,hd,lo,ho,li,hi⟩:=x;obtain⟨ln',ld',hn',hd',lo',ho',li',hi'⟩:=y;unfold Ky;cases hi<;>cases li'<;>simp only[loE,hiE,Hr]
 ·simp at q1 q2;have r:=OC (EI q1) (EI q2);by_cases h3:hn=ln'∧hd=ld'
  ·obtain⟨rfl,rfl⟩:=h3;simp
  ·simp;rw[if_neg h3,if_neg (λh=>h3 (r h))];rfl
 ·simp
 ·simp
 ·simp
theorem APQ (l:List Ivl) (hl:∀x∈l,x.ok) (hn:l.length≤2^40):PX 338 [.list (l.map Ivl.V)] [.int .i64 (Fn l)]:=by
 refine AK ARs rfl ?_;simp only[AMt,AB,AA,AG,cj,ci,AY];simp;refine BQ l.length (λk=>⟨[(0,.v (.list (l.map Ivl.V))),(3,.v (.int .i64 k))],[]⟩) (λk=>∀j <k,C8 l j=false) (by simp) (by omega) ?_;intro k hk hg;simp only[cm,AB,AA,AG,AE,cg];simp;by_cases h1:k <l.length
 ·obtain⟨x,hx⟩:∃x,l[k]?=some x:=⟨_,AT2 h1⟩;have hxm:=AT3 hx;have hw:IntKind.i64.wrap ((k:Int)+1)=k+1:=AJ;have p1:=(APS x (hl x hxm)).fsp;rw[if_pos (by omega),AD];simp only[AA,cf];simp[Ivl.V]at p1;simp[hx,Ivl.V];refine⟨_,_,p1 _,?_⟩;simp only[AW,ce];simp;cases hgx:ET x with
  |false=>
   have hb:C8 l k=true:=by unfold C8;rw[hx];simp[←Gj,hgx]
   simp[AB,AA,AE,AF,Qa,O5];unfold Fn;rw[Em h1 hb];rfl
  |true=>
   cases k with
   |zero=>
    have hb:C8 l 0=false:=by unfold C8;rw[hx];simp[←Gj,hgx]
    simp at hw;simp[AD,AE,AA,Qb,hw,h1];exact hb
   |succ j=>
    obtain⟨y,hy⟩:∃y,l[j]?=some y:=⟨_,AT2 (by omega)⟩;have hgy:ET y=true:=by
     have:=hg j (by omega);unfold C8 at this;rw[hy]at this;simp at this;rw[Gj];exact this.1
    have p2:=APO y x hgy hgx;rw[Sw y x hgy hgx]at p2;have hw2:IntKind.i64.wrap (j:Int)=j:=AJ;simp[Ivl.V]at p2;have h9:(0:Int) <(j:Int)+1:=by omega
    have h10:(0:Int)≤(j:Int)+1:=by omega
    simp[hw2,hy,Ivl.V,hx,h9,h10];refine⟨_,_,⟨rfl,rfl⟩,_,p2,?_⟩;simp;cases hle:Hr (hiE y) (loE x)with
    |false=>
     have hb:C8 l (j+1)=true:=by unfold C8;rw[hx];simp[hy,hle]
     simp[AE,AB,AA,AF,Qa,O5];unfold Fn;rw[Em h1 hb];rfl
    |true=>
     have hb:C8 l (j+1)=false:=by unfold C8;rw[hx];simp[←Gj,hgx,hy,hle]
     simp at hw;simp[AE,AD,AA,Qb,hw,h1];intro i hi;rcases AUS i (j+1)with h|h
     ·exact hg i h
     ·have:i=j+1:=by omega
      subst this;exact hb
 ·have hk2:k=l.length:=by omega
  subst hk2;rw[if_neg (by omega),AM];simp only[AA,AB,AE,cd];unfold Fn;rw[GS hg];by_cases h:32 <(l.length:Int)
  ·have h':32 <l.length:=by omega
   simp[h,h',AB,AA,AF,cc,O5]
  ·have h':¬32 <l.length:=by omega
   simp[h,h',AD,AA,AF,cb,O5]
inductive F where
 |mk (op n:Int) (ins:List Ivl) (kids:List F)
def F.op:F→Int| .mk o _ _ _=>o
def F.n:F→Int| .mk _ n _ _=>n
def F.ins:F→List Ivl| .mk _ _ i _=>i
def F.kids:F→List F| .mk _ _ _ k=>k
theorem F.ind {p:F→Prop} (h:∀op n ins kids,(∀k∈kids,p k)→p (.mk op n ins kids)) (f:F):p f:=
 F.rec (motive_1:=p) (motive_2:=λl=>∀k∈l,p k) (λop n ins kids ih=>h op n ins kids ih) (λk hk=>by cases hk)
  (λx xs hx hxs k hk=>by cases hk with|head=>exact hx|tail _ hk=>exact hxs k hk) f
mutual
def F.V:F→V| .mk op n ins kids=> .agg [.int .i64 op,.int .i64 n,.list (ins.map Ivl.V),.list (F.Vs kids)]
def F.Vs:List F→List V|[]=>[]|k::ks=>k.V::F.Vs ks
end
theorem F.Vs_map:∀l,F.Vs l=l.map F.V
 |[]=>rfl
 |k::ks=>by simp[F.Vs,F.Vs_map ks]
mutual
def F.nodes:F→List F| .mk op n ins kids=> .mk op n ins kids::F.nodess kids
def F.nodess:List F→List F|[]=>[]|k::ks=>k.nodes++F.nodess ks
end
theorem F.nodess_map:∀l,F.nodess l=l.flatMap F.nodes
 |[]=>rfl
 |k::ks=>by simp[F.nodess,F.nodess_map ks]
def F.size (f:F):Nat:=f.nodes.length
mutual
def F.depth:F→Nat| .mk _ _ _ kids=>F.depths kids+1
def F.depths:List F→Nat|[]=>0|k::ks=>max k.depth (F.depths ks)
end
theorem F.size_eq (op n:Int) (ins:List Ivl) (kids:List F):(F.mk op n ins kids).size=1+(kids.map F.size).sum:=by
 unfold F.size;simp only[F.nodes,AUO,F.nodess_map,AWW];have e:(λf:F=>f.size)=λf=>f.nodes.length:=rfl;rw[Nat.add_comm]
theorem F.kid_size {f:F} {kids:List F} (h:f∈kids):f.size≤(kids.map F.size).sum:=by
 induction kids with
 |nil=>cases h
 |cons k ks ih=>
  simp only[AUD,AVE];cases h with
  |head=>omega
  |tail _ h=>have:=ih h;omega
theorem F.size_pos (f:F):1≤f.size:=by cases f;rw[F.size_eq];omega
theorem F.kids_len (kids:List F):kids.length≤(kids.map F.size).sum:=by
 induction kids with
 |nil=>simp
 |cons k ks ih=>have:=k.size_pos;simp only[AUD,AVE,AUO];omega
theorem F.nodes_eq (op n:Int) (ins:List Ivl) (kids:List F):(F.mk op n ins kids).nodes= .mk op n ins kids::kids.flatMap F.nodes:=by
 simp[F.nodes,F.nodess_map]
theorem F.V_eq (op n:Int) (ins:List Ivl) (kids:List F):(F.mk op n ins kids).V= .agg [.int .i64 op,.int .i64 n,.list (ins.map Ivl.V),.list (kids.map F.V)]:=by
 simp[F.V,F.Vs_map]
theorem F.depth_le:∀f:F,f.depth≤f.size:=by
 refine F.ind λop n ins kids ih=>?_;rw[F.size_eq,F.depth];have:F.depths kids≤(kids.map F.size).sum:=by
  induction kids with
  |nil=>simp[F.depths]
  |cons k ks ihk=>
   have h1:=ih k (by simp);have h2:=ihk λx hx=>ih x (by simp[hx]);simp only[F.depths,AUD,AVE];omega
 omega
def F.ok1 (f:F):Prop:=i64 f.op∧i64 f.n∧(∀x∈f.ins,x.ok)∧f.ins.length≤2^40
def F.ok (f:F):Prop:=(∀g∈f.nodes,g.ok1)∧f.size≤2^40
theorem F.ok_kid {op n:Int} {ins:List Ivl} {kids:List F} (h:(F.mk op n ins kids).ok) {k:F} (hk:k∈kids):k.ok:=by
 refine⟨λg hg=>h.1 g ?_,?_⟩
 ·rw[F.nodes_eq];exact AVX _ (AUp.2 ⟨k,hk,hg⟩)
 ·have:=h.2;rw[F.size_eq]at this;have:=F.kid_size hk;omega
def Aw (f:F):Bool:=
 if (f.op≠2∧0 <f.ins.length)∨(f.op≠2∧f.op≠1∧f.n≠0) then false
 else if f.op=0 then f.kids.length==0
 else if f.op=1 then decide (f.kids.length=0∧0≤f.n∧f.n <64)
 else if f.op=2 then decide (f.kids.length=0∧0≤f.n∧f.n <32∧Fn f.ins=0)
 else if f.op=3∨f.op=6 then f.kids.length==1
 else decide (f.op=4∨f.op=5)
def BM (f:F):Int:=if f.size>96∨f.depth>8 then 4 else if f.nodes.all Aw then 0 else 1
def F.cells (f:F):List D:=[.v (.int .i64 f.op),.v (.int .i64 f.n),.v (.list (f.ins.map Ivl.V)),.v (.list (f.kids.map F.V))]
theorem F.ok1_self {f:F} (h:f.ok):f.ok1:=h.1 f (by cases f;rw[F.nodes_eq];exact AWT)
theorem XB {l:List F} {k:Nat} {x:F} (hx:l[k]?=some x) (f:F→Nat):((l.map f).take (k+1)).sum=((l.map f).take k).sum+f x:=by
 rw[AUP,AUG,hx];simp
theorem N0 (l:List F) (k:Nat) (f:F→Nat):((l.map f).take k).sum≤(l.map f).sum:=by
 have:=congrArg (λl=>l.sum) (AUr k (l.map f));simp only[List.sum_append]at this;omega
theorem L4 {l:List F} {f:F→Nat}:(l.map f).take l.length=l.map f:=AUc (by simp)
theorem APo:∀f:F,f.ok→PX 285 [f.V] [.int .i64 f.size]:=by
 refine F.ind λop n ins kids ih hok=>?_;refine AK ASL rfl ?_;have hsz:=hok.2;rw[F.size_eq]at hsz ⊢;have hkl:=F.kids_len kids;simp only[ANJ,AB,AA,AG,gU,gT,gS,AY];simp[F.V_eq];refine Ad kids.length (λk=>⟨[(1,.ref 0 0),(3,.v (.int .i64 (1+((kids.map F.size).take k).sum:Nat))),(4,.v (.int .i64 k))],[.cells (F.mk op n ins kids).cells]⟩) (by simp[F.cells,F.op,F.n,F.ins,F.kids]) ?_;intro k hk;simp only[gV,AB,AA,AG,AE,gR,F.cells,F.op,F.n,F.ins,F.kids];simp;by_cases h1:k <kids.length
 ·obtain⟨x,hx⟩:∃x,kids[k]?=some x:=⟨_,AT2 h1⟩;have hxm:=AT3 hx;have hw:IntKind.i64.wrap ((k:Int)+1)=k+1:=AJ;have p1:=(ih x hxm (F.ok_kid hok hxm)).fsp;have ht:=XB hx F.size;have hle:=N0 kids (k+1) F.size;have hw2:IntKind.i64.wrap (1+(((kids.map F.size).take k).sum:Int)+x.size)=1+(((kids.map F.size).take (k+1)).sum:Int):=by
   rw[AJ];omega
  rw[if_pos (by omega),AD];simp only[AA,gQ,gP];obtain⟨xo,xn,xi,xk⟩:=x;simp[F.V_eq]at p1;simp[hx,F.V_eq];refine⟨_,_,p1 _,?_⟩;simp[hw,hw2,h1]
 ·have hk2:k=kids.length:=by omega
  subst hk2;rw[if_neg (by omega),AM];simp[AA,AF,gO,ACV,L4]
theorem JP {l:List F} {k:Nat} {x:F} (hx:l[k]?=some x):F.depths (l.take (k+1))=max (F.depths (l.take k)) x.depth:=by
 induction l generalizing k with
 |nil=>simp at hx
 |cons y l ih=>
  cases k with
  |zero=>simp at hx;subst hx;simp[F.depths]
  |succ k=>simp at hx;simp only[List.take_succ_cons,F.depths,ih hx];omega
theorem Lk (l:List F):F.depths l≤(l.map F.size).sum:=by
 induction l with
 |nil=>simp[F.depths]
 |cons k ks ih=>have:=F.depth_le k;simp only[F.depths,AUD,AVE];omega
theorem APn:∀f:F,f.ok→PX 286 [f.V] [.int .i64 f.depth]:=by
 refine F.ind λop n ins kids ih hok=>?_;refine AK ASK rfl ?_;have hsz:=hok.2;rw[F.size_eq]at hsz;have hkl:=F.kids_len kids;have hdl:=Lk kids;simp only[ANI,AB,AA,AG,gM,gL,gK,AY];simp[F.V_eq];refine Ad kids.length (λk=>⟨[(1,.ref 0 0),(3,.v (.int .i64 (F.depths (kids.take k)))),(4,.v (.int .i64 k))],[.cells (F.mk op n ins kids).cells]⟩) (by simp[F.cells,F.op,F.n,F.ins,F.kids,F.depths]) ?_;intro k hk;simp only[gN,AB,AA,AG,AE,gJ,F.cells,F.op,F.n,F.ins,F.kids];simp;by_cases h1:k <kids.length
 ·obtain⟨x,hx⟩:∃x,kids[k]?=some x:=⟨_,AT2 h1⟩;have hxm:=AT3 hx;have hw:IntKind.i64.wrap ((k:Int)+1)=k+1:=AJ;have p1:=(ih x hxm (F.ok_kid hok hxm)).fsp;have ht:=JP hx;rw[if_pos (by omega),AD];simp only[AA,gI,gH];obtain⟨xo,xn,xi,xk⟩:=x;simp[F.V_eq]at p1;simp[hx,F.V_eq];refine⟨_,_,p1 _,?_⟩;simp[hw,h1,ht];split<;>omega
 ·have hk2:k=kids.length:=by omega
  subst hk2;rw[if_neg (by omega),AM];have hw2:IntKind.i64.wrap ((F.depths kids:Int)+1)=F.depths kids+1:=AJ;simp[AA,AF,gF,ACU,hw2,F.depth]
end Go.Va
