/- Laws that ExtractBytes leans on, part 9. No condition of its own. -/
import Derived.Test.YtopldfpkgbkomaaGreatDoorL08
set_option linter.all false
set_option maxRecDepth 100000
set_option maxHeartbeats 4000000
noncomputable section
namespace Go.Va
open Go.Proofs
section
def MH (a b:Ivl):Bool:=
 if a.hi||b.li then false else if a.hn=b.ln∧a.hd=b.ld then a.ho&&b.lo else Hm a.hn a.hd b.ln b.ld
theorem JZ {x:Ivl} (h:Ep x=true) (hi:x.hi=false):Bz x.hn x.hd=true:=by
 unfold Ep at h;by_cases c1:((x.li&&(!decide (x.ln=0∧x.ld=0)||x.lo))||(x.hi&&(!decide (x.hn=0∧x.hd=0)||x.ho)))=true
 ·rw[if_pos c1]at h;cases h
 ·rw[if_neg c1]at h;by_cases c2:((!x.li&& !Bz x.ln x.ld)||(!x.hi&& !Bz x.hn x.hd))=true
  ·rw[if_pos c2]at h;cases h
  ·rw[hi]at c2;simp at c2;exact c2.2
theorem JY {x:Ivl} (h:Ep x=true) (hi:x.li=false):Bz x.ln x.ld=true:=by
 unfold Ep at h;by_cases c1:((x.li&&(!decide (x.ln=0∧x.ld=0)||x.lo))||(x.hi&&(!decide (x.hn=0∧x.hd=0)||x.ho)))=true
 ·rw[if_pos c1]at h;cases h
 ·rw[if_neg c1]at h;by_cases c2:((!x.li&& !Bz x.ln x.ld)||(!x.hi&& !Bz x.hn x.hd))=true
  ·rw[if_pos c2]at h;cases h
  ·rw[hi]at c2;simp at c2;exact c2.1
theorem C8 {n d:Int} (h:Bz n d=true):En n d=true:=by unfold Bz at h;simp at h;exact h.1
theorem jU (x y:Ivl) (gx:Ep x=true) (gy:Ep y=true):PX 353 [x.V,y.V] [.bool (MH x y)]:=by
 refine BU 353 ?_;have q1:=JZ gx;have q2:=JY gy;obtain⟨R,hR⟩:∃R,MH x y=R:=⟨_,rfl⟩;rw[hR];unfold MH at hR;obtain⟨ln,ld,hn,hd,lo,ho,li,hi⟩:=x;obtain⟨ln',ld',hn',hd',lo',ho',li',hi'⟩:=y;simp only[Ivl.V]at*;rw[At 353];rw[AE,AG];simp[AA 353 0,AV];rw[AE,AE,AG];cases hi with
 |true=>simp at hR;simp[AA 353 1,AL,AE,AG,AD,AA 353 2,AX 353,hR]
 |false=>
  cases li' with
  |true=>simp at hR;simp[AA 353 1,AL,AE,AG,AD,AA 353 2,AX 353,hR]
  |false=>
   have p3:=(Wn hn hd ln' ld' (C8 (q1 rfl)) (C8 (q2 rfl))).fsp;simp[BL]at p3;simp[AA 353 1,AL,AB];rw[AE,AE,AG];simp[AA 353 3,XT];by_cases h3:hn=ln'∧hd=ld'
   ·simp[h3]at hR;cases ho<;>simp at hR<;>simp[h3,AL,AE,AG,AD,AA 353 4,AX 353,hR]
   ·simp[h3]at hR;simp[h3,AL,AB,AE,AG,AA 353 5];refine⟨_,_,p3 _,?_⟩;simp[AD,AX 353,hR]
theorem NN {b a d:Int} (hc:Int.gcd b a=1) (h3:b ∣ a*d):b ∣ d:=by
 have h3n:b.natAbs ∣ a.natAbs*d.natAbs:=by rw[←Int.natAbs_mul];exact Int.natAbs_dvd_natAbs.2 h3
 have hc':Nat.Coprime b.natAbs a.natAbs:=hc;exact Int.natAbs_dvd_natAbs.1 (hc'.dvd_of_dvd_mul_left h3n)
variable {c:Int}
theorem LR {a b d:Int} (h1:En a b=true) (h2:En c d=true) (h:a*d=c*b):a=c∧b=d:=by
 unfold En at h1 h2;simp at h1 h2;obtain⟨b1,_,_,_,g1⟩:=h1;obtain⟨d1,_,_,_,g2⟩:=h2;have e1:b ∣ d:=by
  have h3:b ∣ a*d:=by rw[h];exact Int.dvd_mul_left _ _
  have:Int.gcd b a=1:=by rw[Int.gcd_comm];exact g1
  exact NN this h3
 have e2:d ∣ b:=by
  have h3:d ∣ c*b:=by rw[←h];exact Int.dvd_mul_left _ _
  have:Int.gcd d c=1:=by rw[Int.gcd_comm];exact g2
  exact NN this h3
 have e3:b=d:=by
  have:=Int.le_of_dvd (by omega) e1;have:=Int.le_of_dvd (by omega) e2;omega
 subst e3;exact⟨Int.eq_of_mul_eq_mul_right (by omega) h,rfl⟩
theorem GQ (x:Ivl):Ep x=FY x:=by
 obtain⟨ln,ld,hn,hd,lo,ho,li,hi⟩:=x;unfold FY Ep Mb;cases li<;>cases hi<;>simp only[Qq,Qt,JT]
 ·cases hs1:Bz ln ld<;>cases hs2:Bz hn hd<;>simp
  have r:=LR (C8 hs1) (C8 hs2);by_cases h3:ln=hn∧ld=hd
  ·obtain⟨rfl,rfl⟩:=h3;simp
  ·rw[if_neg h3];rw[if_neg (λh=>h3 (r h))];rfl
 ·generalize hA:decide (hn=0∧hd=0)=A;cases A<;>cases ho<;>cases Bz ln ld<;>simp
 ·simp
 ·simp
theorem RF (x y:Ivl) (gx:Ep x=true) (gy:Ep y=true):MH x y=JT (Qt x) (Qq y):=by
 have q1:=JZ gx;have q2:=JY gy;obtain⟨ln,ld,hn,hd,lo,ho,li,hi⟩:=x;obtain⟨ln',ld',hn',hd',lo',ho',li',hi'⟩:=y;unfold MH;cases hi<;>cases li'<;>simp only[Qq,Qt,JT]
 ·simp at q1 q2;have r:=LR (C8 q1) (C8 q2);by_cases h3:hn=ln'∧hd=ld'
  ·obtain⟨rfl,rfl⟩:=h3;simp
  ·simp;rw[if_neg h3,if_neg (λh=>h3 (r h))];rfl
 ·simp
 ·simp
 ·simp
theorem jW (l:List Ivl) (hl:∀x∈l,x.ok) (hn:l.length≤2^40):PX 338 [.list (l.map Ivl.V)] [.int .i64 (G5 l)]:=by
 refine BU 338 ?_;simp only[At 338,AE,AG,AU,AA 338 0,AA 338 1,AV];simp;refine Ao l.length (λk=>⟨[(0,.v (.list (l.map Ivl.V))),(3,.v (.int .i64 k))],[]⟩) (λk=>∀j <k,Dv l j=false) (by simp) (by omega) ?_;intro k hk hg;simp only[Zw,BA 338 0,AA 338 2];simp;by_cases h1:k <l.length
 ·obtain⟨x,hx⟩:∃x,l[k]?=some x:=⟨_,qH h1⟩;have hxm:=qJ hx;have hw:=Bo k;have p1:=(dK x (hl x hxm)).fsp;rw[if_pos (by omega),AB];simp only[AA 338 4];simp[Ivl.V]at p1;simp[hx,Ivl.V];refine⟨_,_,p1 _,?_⟩;simp only[AW,AA 338 5];simp;cases hgx:Ep x with
  |false=>
   have hb:Dv l k=true:=by unfold Dv;rw[hx];simp[←GQ,hgx]
   simp[AD,AA 338 6,AX 338];unfold G5;rw[ER h1 hb];rfl
  |true=>
   cases k with
   |zero=>
    have hb:Dv l 0=false:=by unfold Dv;rw[hx];simp[←GQ,hgx]
    simp at hw;simp[AB,AA 338 3,hw,h1];exact hb
   |succ j=>
    obtain⟨y,hy⟩:∃y,l[j]?=some y:=⟨_,qH (by omega)⟩;have hgy:Ep y=true:=by
     have:=hg j (by omega);unfold Dv at this;rw[hy]at this;simp at this;rw[GQ];exact this.1
    have p2:=jU y x hgy hgx;rw[RF y x hgy hgx]at p2;have hw2:IntKind.i64.wrap (j:Int)=j:=AQ;simp[Ivl.V]at p2;have h9:(0:Int) <(j:Int)+1:=by omega
    have h10:(0:Int)≤(j:Int)+1:=by omega
    simp[hw2,hy,Ivl.V,hx,h10];refine⟨_,_,⟨rfl,rfl⟩,_,p2,?_⟩;simp;cases hle:JT (Qt y) (Qq x)with
    |false=>
     have hb:Dv l (j+1)=true:=by unfold Dv;rw[hx];simp[hy,hle]
     simp[AD,AA 338 6,AX 338];unfold G5;rw[ER h1 hb];rfl
    |true=>
     have hb:Dv l (j+1)=false:=by unfold Dv;rw[hx];simp[←GQ,hgx,hy,hle]
     simp at hw;simp[AB,AA 338 3,hw,h1];intro i hi;rcases qi i (j+1)with h|h
     ·exact hg i h
     ·have:i=j+1:=by omega
      subst this;exact hb
 ·have hk2:k=l.length:=by omega
  subst hk2;rw[if_neg (by omega),AJ];simp only[AA 338 7];unfold G5;rw[Fi hg];by_cases h:32 <(l.length:Int)
  ·have h':32 <l.length:=by omega
   simp[h,h',AD,AA 338 8,AX 338]
  ·have h':¬32 <l.length:=by omega
   simp[h,h',AB,AD,AA 338 9,AX 338]
end
inductive F where
 |mk (op n:Int) (ins:List Ivl) (kids:List F)
def F.op:F→Int| .mk o _ _ _=>o
def F.n:F→Int| .mk _ n _ _=>n
def F.ins:F→List Ivl| .mk _ _ i _=>i
def F.kids:F→List F| .mk _ _ _ k=>k
theorem F.ind {p:F→Prop} (h:∀op n ins kids,(∀k∈kids,p k)→p (.mk op n ins kids)) (f:F):p f:=
 F.rec (motive_1:=p) (motive_2:=λl=>∀k∈l,p k) (λop n ins kids ih=>h op n ins kids ih) (λk hk=>by cases hk)
  (λx xs hx hxs k hk=>by cases hk with|head=>exact hx|tail _ hk=>exact hxs k hk) f
mutual
def F.V:F→V| .mk op n ins kids=> .agg [.int .i64 op,.int .i64 n,.list (ins.map Ivl.V),.list (F.Vs kids)]
def F.Vs:List F→List V|[]=>[]|k::ks=>k.V::F.Vs ks
end
theorem F.Vs_map:∀l,F.Vs l=l.map F.V
 |[]=>rfl
 |k::ks=>by simp[F.Vs,F.Vs_map ks]
mutual
def F.nodes:F→List F| .mk op n ins kids=> .mk op n ins kids::F.nodess kids
def F.nodess:List F→List F|[]=>[]|k::ks=>k.nodes++F.nodess ks
end
theorem F.nodess_map:∀l,F.nodess l=l.flatMap F.nodes
 |[]=>rfl
 |k::ks=>by simp[F.nodess,F.nodess_map ks]
def F.size (f:F):Nat:=f.nodes.length
mutual
def F.depth:F→Nat| .mk _ _ _ kids=>F.depths kids+1
def F.depths:List F→Nat|[]=>0|k::ks=>max k.depth (F.depths ks)
end
theorem F.size_eq (op n:Int) (ins:List Ivl) (kids:List F):(F.mk op n ins kids).size=1+(kids.map F.size).sum:=by
 unfold F.size;simp only[F.nodes,qT,F.nodess_map,qU];have e:(λf:F=>f.size)=λf=>f.nodes.length:=rfl;rw[Nat.add_comm]
theorem F.kid_size {f:F} {kids:List F} (h:f∈kids):f.size≤(kids.map F.size).sum:=by
 induction kids with
 |nil=>cases h
 |cons k ks ih=>
  simp only[qR,rq];cases h with
  |head=>omega
  |tail _ h=>have:=ih h;omega
theorem F.size_pos (f:F):1≤f.size:=by cases f;rw[F.size_eq];omega
theorem F.kids_len (kids:List F):kids.length≤(kids.map F.size).sum:=by
 induction kids with
 |nil=>simp
 |cons k ks ih=>have:=k.size_pos;simp only[qR,rq,qT];omega
theorem F.nodes_eq (op n:Int) (ins:List Ivl) (kids:List F):(F.mk op n ins kids).nodes= .mk op n ins kids::kids.flatMap F.nodes:=by
 simp[F.nodes,F.nodess_map]
theorem F.V_eq (op n:Int) (ins:List Ivl) (kids:List F):(F.mk op n ins kids).V= .agg [.int .i64 op,.int .i64 n,.list (ins.map Ivl.V),.list (kids.map F.V)]:=by
 simp[F.V,F.Vs_map]
theorem F.depth_le:∀f:F,f.depth≤f.size:=by
 refine F.ind λop n ins kids ih=>?_;rw[F.size_eq,F.depth];have:F.depths kids≤(kids.map F.size).sum:=by
  induction kids with
  |nil=>simp[F.depths]
  |cons k ks ihk=>
   have h1:=ih k (by simp);have h2:=ihk λx hx=>ih x (by simp[hx]);simp only[F.depths,qR,rq];omega
 omega
def F.ok1 (f:F):Prop:=i64 f.op∧i64 f.n∧(∀x∈f.ins,x.ok)∧f.ins.length≤2^40
def F.ok (f:F):Prop:=(∀g∈f.nodes,g.ok1)∧f.size≤2^40
theorem F.ok_kid {op n:Int} {ins:List Ivl} {kids:List F} (h:(F.mk op n ins kids).ok) {k:F} (hk:k∈kids):k.ok:=by
 refine⟨λg hg=>h.1 g ?_,?_⟩
 ·rw[F.nodes_eq];exact sa _ (rM.2 ⟨k,hk,hg⟩)
 ·have:=h.2;rw[F.size_eq]at this;have:=F.kid_size hk;omega
def BH (f:F):Bool:=
 if (f.op≠2∧0 <f.ins.length)∨(f.op≠2∧f.op≠1∧f.n≠0) then false
 else if f.op=0 then f.kids.length==0
 else if f.op=1 then decide (f.kids.length=0∧0≤f.n∧f.n <64)
 else if f.op=2 then decide (f.kids.length=0∧0≤f.n∧f.n <32∧G5 f.ins=0)
 else if f.op=3∨f.op=6 then f.kids.length==1
 else decide (f.op=4∨f.op=5)
def Bt (f:F):Int:=if f.size>96∨f.depth>8 then 4 else if f.nodes.all BH then 0 else 1
section
def F.cells (f:F):List D:=[.v (.int .i64 f.op),.v (.int .i64 f.n),.v (.list (f.ins.map Ivl.V)),.v (.list (f.kids.map F.V))]
theorem F.ok1_self {f:F} (h:f.ok):f.ok1:=h.1 f (by cases f;rw[F.nodes_eq];exact tG)
variable {k:Nat}
theorem T5 {l:List F} {x:F} (hx:l[k]?=some x) (f:F→Nat):((l.map f).take (k+1)).sum=((l.map f).take k).sum+f x:=by
 rw[qc,qZ,hx];simp
theorem Ob (l:List F) (k:Nat) (f:F→Nat):((l.map f).take k).sum≤(l.map f).sum:=by
 have:=congrArg (λl=>l.sum) (rJ k (l.map f));simp only[List.sum_append]at this;omega
theorem Nb {l:List F} {f:F→Nat}:(l.map f).take l.length=l.map f:=qw (by simp)
theorem j9:∀f:F,f.ok→PX 285 [f.V] [.int .i64 f.size]:=by
 refine F.ind λop n ins kids ih hok=>?_;refine BU 285 ?_;have hsz:=hok.2;rw[F.size_eq]at hsz ⊢;have hkl:=F.kids_len kids;simp only[At 285,AE,AG,AU,AA 285 0,AA 285 1,AA 285 2,AV];simp[F.V_eq];refine AM kids.length (λk=>⟨[(1,.ref 0 0),(3,.v (.int .i64 (1+((kids.map F.size).take k).sum:Nat))),(4,.v (.int .i64 k))],[.cells (F.mk op n ins kids).cells]⟩) (by simp[F.cells,F.op,F.n,F.ins,F.kids]) ?_;intro k hk;simp only[Zw,BA 285 0,AA 285 3,F.cells,F.op,F.n,F.ins,F.kids];simp;by_cases h1:k <kids.length
 ·obtain⟨x,hx⟩:∃x,kids[k]?=some x:=⟨_,qH h1⟩;have hxm:=qJ hx;have hw:=Bo k;have p1:=(ih x hxm (F.ok_kid hok hxm)).fsp;have ht:=T5 hx F.size;have hle:=Ob kids (k+1) F.size;have hw2:IntKind.i64.wrap (1+(((kids.map F.size).take k).sum:Int)+x.size)=1+(((kids.map F.size).take (k+1)).sum:Int):=by
   rw[AQ];omega
  rw[if_pos (by omega),AB];simp only[AA 285 4,AA 285 5];obtain⟨xo,xn,xi,xk⟩:=x;simp[F.V_eq]at p1;simp[hx,F.V_eq];refine⟨_,_,p1 _,?_⟩;simp[hw,hw2,h1]
 ·have hk2:k=kids.length:=by omega
  subst hk2;rw[if_neg (by omega),AJ];simp[AD,AA 285 6,AX 285,Nb]
theorem Kh {l:List F} {x:F} (hx:l[k]?=some x):F.depths (l.take (k+1))=max (F.depths (l.take k)) x.depth:=by
 induction l generalizing k with
 |nil=>simp at hx
 |cons y l ih=>
  cases k with
  |zero=>simp at hx;subst hx;simp[F.depths]
  |succ k=>simp at hx;simp only[tb,F.depths,ih hx];omega
theorem NO (l:List F):F.depths l≤(l.map F.size).sum:=by
 induction l with
 |nil=>simp[F.depths]
 |cons k ks ih=>have:=F.depth_le k;simp only[F.depths,qR,rq];omega
theorem jz:∀f:F,f.ok→PX 286 [f.V] [.int .i64 f.depth]:=by
 refine F.ind λop n ins kids ih hok=>?_;refine BU 286 ?_;have hsz:=hok.2;rw[F.size_eq]at hsz;have hkl:=F.kids_len kids;have hdl:=NO kids;simp only[At 286,AE,AG,AU,AA 286 0,AA 286 1,AA 286 2,AV];simp[F.V_eq];refine AM kids.length (λk=>⟨[(1,.ref 0 0),(3,.v (.int .i64 (F.depths (kids.take k)))),(4,.v (.int .i64 k))],[.cells (F.mk op n ins kids).cells]⟩) (by simp[F.cells,F.op,F.n,F.ins,F.kids,F.depths]) ?_;intro k hk;simp only[Zw,BA 286 0,AA 286 3,F.cells,F.op,F.n,F.ins,F.kids];simp;by_cases h1:k <kids.length
 ·obtain⟨x,hx⟩:∃x,kids[k]?=some x:=⟨_,qH h1⟩;have hxm:=qJ hx;have hw:=Bo k;have p1:=(ih x hxm (F.ok_kid hok hxm)).fsp;have ht:=Kh hx;rw[if_pos (by omega),AB];simp only[AA 286 4,AA 286 5];obtain⟨xo,xn,xi,xk⟩:=x;simp[F.V_eq]at p1;simp[hx,F.V_eq];refine⟨_,_,p1 _,?_⟩;simp[hw,h1,ht];split<;>omega
 ·have hk2:k=kids.length:=by omega
  subst hk2;rw[if_neg (by omega),AJ];have hw2:IntKind.i64.wrap ((F.depths kids:Int)+1)=F.depths kids+1:=AQ;simp[AD,AA 286 6,AX 286,hw2,F.depth]
end
theorem Rx (n:Nat):((n:Int)==0)=(n==0):=by rw[sL];simp
theorem K6 (n:Nat):((n:Int)==1)=(n==1):=by rw[sL];simp;omega
def Ks (f:F):Bool:=decide ((f.op≠2∧0 <f.ins.length)∨(f.op≠2∧f.op≠1∧f.n≠0))
theorem fE (f:F) (Q:AExit→St→Prop) (hQ:Q .normal ⟨[(1,.ref 0 0),(26,.v (.bool (Ks f)))],[.cells f.cells]⟩):
  awp Tryz.prog An (.reg (oG 322 1) [1,26]) Q ⟨[(1,.ref 0 0)],[.cells f.cells]⟩:=by
 obtain⟨B,hB⟩:∃B,Ks f=B:=⟨_,rfl⟩;rw[hB]at hQ;obtain⟨op,n,ins,kids⟩:=f;simp only[F.cells,Ks,F.op,F.n,F.ins,F.kids]at*;rw[AG];simp only[AA 322 1];by_cases h2:op=2
 ·subst h2;simp at hB;subst hB;simpa using hQ
 ·by_cases hl:0 <ins.length
  ·have hl':0 <(ins.length:Int):=by omega
   simp[h2,hl]at hB;subst hB;simp[h2,hl];exact hQ
  ·have hl':¬0 <(ins.length:Int):=by omega
   have hl2:ins=[]:=by cases ins<;>simp_all
   subst hl2;by_cases h1:op=1
   ·subst h1;simp at hB;subst hB;simpa using hQ
   ·by_cases hn:n=0
    ·subst hn;simp at hB;subst hB;simp[h2,h1];exact hQ
    ·have hn2:(n != 0)=true:=by simpa using hn
     simp[h2,h1,hn]at hB;subst hB;simp[h2,h1,hn2];exact hQ
theorem Kc {f:F} (h:Ks f=true):BH f=false:=by
 unfold BH;unfold Ks at h;rw[if_pos (of_decide_eq_true h)]
theorem Jb {f:F} (h:Ks f=false):BH f=if f.op=0 then f.kids.length==0
 else if f.op=1 then decide (f.kids.length=0∧0≤f.n∧f.n <64)
 else if f.op=2 then decide (f.kids.length=0∧0≤f.n∧f.n <32∧G5 f.ins=0)
 else if f.op=3∨f.op=6 then f.kids.length==1
 else decide (f.op=4∨f.op=5):=by
 unfold BH;unfold Ks at h;rw[if_neg (of_decide_eq_false h)]
theorem jd (f:F) (hf:f.ok1):PX 322 [f.V] [.bool (BH f)]:=by
 refine BU 322 ?_;obtain⟨R,hR⟩:∃R,BH f=R:=⟨_,rfl⟩;rw[hR];have hp:=(jW f.ins hf.2.2.1 hf.2.2.2).fsp;rw[At 322];rw[AE,AG];obtain⟨op,n,ins,kids⟩:=f;simp only[F.V_eq,F.ins]at*;simp[AA 322 0,AV];rw[AE,AE];have ha:=fE ⟨op,n,ins,kids⟩;simp only[F.cells,F.op,F.n,F.ins,F.kids]at ha;refine ha _ ?_;simp[AL];cases ho:Ks ⟨op,n,ins,kids⟩with
 |true=>
  rw[Kc ho]at hR;simp[AE,AG,AD,AA 322 2,AX 322,hR]
 |false=>
  rw[Jb ho]at hR;simp only[F.op,F.n,F.ins,F.kids]at hR;simp only[AB,if_neg tz];simp only[Zw,AA 322 3,AA 322 4];simp;by_cases h0:op=0
  ·subst h0;simp at hR;simp[AD,AA 322 5,AX 322,Rx,hR]
  ·simp only[h0,if_false]at hR;simp[h0,AA 322 6];by_cases h1:op=1
   ·subst h1;simp at hR;simp[AD,AA 322 7];by_cases hk:kids.length=0
    ·have hk2:kids=[]:=t5.1 hk;subst hk2;by_cases b1:0≤n<;>by_cases b2:n <64<;>simp[b1,b2]at hR<;>simp[b1,b2,AX 322,hR]
    ·have hk2:¬kids=[]:=λh=>hk (by rw[h];rfl);simp[hk2]at hR;simp[hk2,AX 322,hR]
   ·simp only[h1,if_false]at hR;simp[h1,AA 322 8];by_cases h2:op=2
    ·subst h2;simp at hR;simp[AD,AA 322 9];by_cases hk:kids.length=0
     ·have hk2:kids=[]:=t5.1 hk;subst hk2;by_cases b1:0≤n<;>by_cases b2:n <32<;>simp[b1,b2]at hR<;>simp[b1,b2,AX 322,hR]
      refine⟨_,_,hp _,?_⟩;simp;rw[←hR,sL];simp
     ·have hk2:¬kids=[]:=λh=>hk (by rw[h];rfl);simp[hk2]at hR;simp[hk2,AX 322,hR]
    ·simp only[h2,if_false]at hR;simp[h2,AA 322 10];by_cases h3:op=3
     ·subst h3;simp at hR;simp[AB,AD,AA 322 12,AX 322,K6,hR]
     ·simp[h3,AB,AA 322 11];by_cases h6:op=6
      ·subst h6;simp at hR;simp[AD,AA 322 12,AX 322,K6,hR]
      ·simp[h3,h6]at hR;simp[h6,AD,AA 322 13];by_cases h4:op=4<;>by_cases h5:op=5<;>simp[h4,h5]at hR<;>simp[h4,h5,AX 322,hR]
def EU (f:F):Bool:=f.nodes.all BH
theorem Mm (op n:Int) (ins:List Ivl) (kids:List F):EU (.mk op n ins kids)=(BH (.mk op n ins kids)&&kids.all EU):=by
 unfold EU;rw[F.nodes_eq,tS,List.all_flatMap]
theorem jy:∀f:F,f.ok→PX 287 [f.V] [.bool (EU f)]:=by
 refine F.ind λop n ins kids ih hok=>?_;refine BU 287 ?_;obtain⟨R,hR⟩:∃R,EU (.mk op n ins kids)=R:=⟨_,rfl⟩;rw[hR];rw[Mm]at hR;have hsz:=hok.2;rw[F.size_eq]at hsz;have hkl:=F.kids_len kids;have hp:=(jd _ (F.ok1_self hok)).fsp;generalize BH (.mk op n ins kids)=fm at*;simp only[Zw,At 287,AA 287 0,AA 287 1,AV];simp[F.V_eq]at hp ⊢;refine⟨_,_,hp _,?_⟩;cases fm with
 |false=>simp at hR;simp[AD,AA 287 2,AX 287,hR]
 |true=>
  simp only[rC]at hR;simp[AB,AA 287 3];refine Ao kids.length (λk=>⟨[(1,.ref 0 0),(3,.v (.int .i64 k))],[.cells (F.mk op n ins kids).cells]⟩) (λk=>∀x∈kids.take k,EU x=true) (by simp[F.cells,F.op,F.n,F.ins,F.kids]) (by simp) ?_;intro k hk hI;simp only[Zw,BA 287 0,AA 287 4,F.cells,F.op,F.n,F.ins,F.kids];simp;by_cases h1:k <kids.length
  ·obtain⟨x,hx⟩:∃x,kids[k]?=some x:=⟨_,qH h1⟩;have hxm:=qJ hx;have hw:=Bo k;have p1:=(ih x hxm (F.ok_kid hok hxm)).fsp;rw[if_pos (by omega),AB];simp only[AA 287 6];cases hwx:EU x with
   |false=>
    have:kids.all EU=false:=by rw[List.all_eq_false];exact⟨x,hxm,by simp[hwx]⟩
    rw[this]at hR;obtain⟨xo,xn,xi,xk⟩:=x;simp[F.V_eq,hwx]at p1;simp[hx,F.V_eq];refine⟨_,_,p1 _,?_⟩;simp[AD,AA 287 7,AX 287,hR]
   |true=>
    have ht:∀y∈kids.take (k+1),EU y=true:=by
     rw[qc,hx];intro y hy;simp at hy;rcases hy with hy|rfl
     ·exact hI y hy
     ·exact hwx
    obtain⟨xo,xn,xi,xk⟩:=x;simp[F.V_eq,hwx]at p1;simp[hx,F.V_eq];refine⟨_,_,p1 _,?_⟩;simp[AB,AA 287 5,hw,h1];exact ht
  ·have hk2:k=kids.length:=by omega
   subst hk2;rw[if_neg (by omega),AJ];have:kids.all EU=true:=by rw[qV];simpa using hI
   rw[this]at hR;simp[AD,AA 287 8,AX 287,hR]
theorem Wp (f:F) (hok:f.ok):PX 214 [f.V] [.int .i64 (Bt f)]:=by
 refine BU 214 ?_;obtain⟨R,hR⟩:∃R,Bt f=R:=⟨_,rfl⟩;rw[hR];unfold Bt at hR;have e:f.nodes.all BH=EU f:=rfl;rw[e]at hR;have h1:=(j9 f hok).fsp;have h2:=(jz f hok).fsp;have h3:=(jy f hok).fsp;obtain⟨op,n,ins,kids⟩:=f;simp only[At 214,AE,AG,AL,AA 214 0,AA 214 1,AV];simp[F.V_eq]at h1 h2 h3 ⊢;refine⟨_,_,h1 _,?_⟩;generalize F.size (.mk op n ins kids)=sz at*;generalize F.depth (.mk op n ins kids)=dp at*;by_cases b1:96 <sz
 ·have b1':96 <(sz:Int):=by omega
  simp[b1]at hR;simp[b1',AD,AA 214 2,AX 214,hR]
 ·have b1':¬96 <(sz:Int):=by omega
  simp[b1'];refine⟨_,_,h2 _,?_⟩;by_cases b2:8 <dp
  ·have b2':8 <(dp:Int):=by omega
   simp[b2]at hR;simp[b2',AD,AA 214 2,AX 214,hR]
  ·have b2':¬8 <(dp:Int):=by omega
   simp[b1,b2]at hR;simp[b2',AB,AA 214 3];refine⟨_,_,h3 _,?_⟩;cases hw:EU (.mk op n ins kids)with
   |false=>simp[hw]at hR;simp[AD,AA 214 4,AX 214,hR]
   |true=>simp[hw]at hR;simp[AD,AA 214 5,AX 214,hR]
section
def IdxR (P:Program) (GL:Ac) (fid:Nat) (caps:List D):List V→List Row→Option Nat→List Row→Prop
 |[],h,r,h'=>r=none∧h'=h
 |x::xs,h,r,h'=>∃b h1,FSp P GL fid (.v x::caps) h [.v (.bool b)] h1∧if b then r=some 0∧h'=h1 else ∃r',IdxR P GL fid caps xs h1 r' h'∧r=r'.map (· +1)
def HI:Option Nat→Int
 |none=> -1
 |some k=>k
theorem Po {α:Type} (p:α→Bool) (xs:List α):(xs.findIdx? p).isSome=xs.any p:=by
 induction xs with
 |nil=>rfl
 |cons x xs ih=>
  cases hx:p x with
  |true=>simp[t6,hx]
  |false=>simp only[t6,hx,List.any_cons,Bool.false_or,qY,if_false,Option.isSome_map];exact ih
theorem XL (r:Option Nat):(0≤HI r)↔r.isSome=true:=by
 cases r with
 |none=>simp[HI]
 |some k=>simp[HI]
structure FV (fd:D) (fid:Nat) (caps:List D):Prop where
 cp:fd.copy=fd
 fn:Dt fd=some (fid,caps)
 nm:fd.norm=fd
 ny:∀r,fd≠ .yld r
 nt:∀a b,fd≠ .meth a b
theorem FV.v (fid:Nat) (vs:List V):FV (.v (.func fid vs)) fid (vs.map .v):=⟨rfl,rfl,rfl,(λ_ h=>by cases h),(λ_ _ h=>by cases h)⟩
theorem FV.r (fid r o:Nat) (caps:List D):FV (.func fid (.ref r o::caps)) fid (.ref r o::caps):=by
 have e:D.norm (.func fid (.ref r o::caps))= .func fid (.ref r o::caps):=by simp[D.norm,D.vs?,D.v?]
 exact⟨rfl,by unfold Dt;rw[e],e,(λ_ h=>by cases h),(λ_ _ h=>by cases h)⟩
def oX (s:Nat):Bool→V→Prop
 |true,x=>∃cs,x= .agg cs∧cs.length=s
 |false,x=>s=1∧∃n,x= .int .i64 n
theorem pg (s:Nat) (g:Bool) (fd:D) (fid:Nat) (caps:List D) (hf:FV fd fid caps) (all:List V) (m:Nat) (hm2:all.length=m) (hlen:m <2^40)
  (Q:AExit→St→Prop):∀(xs:List V) (k:Nat) (h:List Row) (r:Option Nat) (h':List Row),all.drop k=xs→k≤m→(∀x∈xs,oX s g x)→IdxR Tryz.prog An fid caps xs h r h'→
  (r=none→∀e,AF e 0= .v (.list all)→Q (.exit 0) ⟨e,h'⟩)→(∀j,r=some j→∀e,AF e 4= .v (.int .i64 ((k+j:Nat):Int))→Q .ret ⟨e,h'⟩)→
  awp Tryz.prog An (.loop (TQ s g)) Q ⟨[(0,.v (.list all)),(1,fd),(7,.v (.int .i64 m)),(8,.v (.int .i64 k))],h⟩:=by
 have hfn:=hf.nm;have hcp:=hf.cp;have hcp2:=hf.cp;simp only[D.copy]at hcp2;intro xs;induction xs with
 |nil=>
  rintro k h r h' hd hk hc ⟨rfl,rfl⟩ hn hs;have h0:m≤k:=by rw[←hm2];exact tn.1 hd
  refine Aa ?_;simp only[TQ,AE,AG,AU,AL,Xf];have h2:¬(k:Int) <m:=by omega
  simp[h2,AJ];exact hn rfl _ rfl
 |cons x xs ih=>
  rintro k h r h' hd hk hc ⟨b,h1,hb,hr⟩ hn hs;have hx:all[k]?=some x:=by have:=congrArg (·[0]?) hd;simpa using this
  have hkl:k <m:=by rw[←hm2];exact(qK.1 hx).1
  have hd':all.drop (k+1)=xs:=by have:=congrArg (List.drop 1) hd;simpa using this
  have hw:IntKind.i64.wrap ((k:Int)+1)=k+1:=AQ;have hkl':(k:Int) <m:=by omega
  have hcx:=hc x (by simp);have step:awp Tryz.prog An (TQ s g) (λe s'=>match e with| .normal=>b=false∧s'=⟨[(0,.v (.list all)),(1,fd),(7,.v (.int .i64 m)),(8,.v (.int .i64 (k+1:Nat)))],h1⟩| .ret=>b=true∧AF s'.e 4= .v (.int .i64 k)∧s'.h=h1| .exit _=>False) ⟨[(0,.v (.list all)),(1,fd),(7,.v (.int .i64 m)),(8,.v (.int .i64 k))],h⟩:=by
   cases g with
   |true=>
    obtain⟨cs,rfl,hcs⟩:=hcx;simp only[TQ,AE,AG,AU,AL,Xf];simp[hkl',AB,bM,bL,hx,hcp2,-BZ,hcs];have hcall:∀(K:St→Prop) (e:CH),AF e 11=fd→AF e 15= .v (.agg cs)→K ⟨CQ e (some 16) (.v (.bool b)),h1⟩→BZ Tryz.prog An (some 16) (.t 11 false) [.t 15 false] K ⟨e,h⟩:=by
     intro K e e1 e2 hK;unfold BZ;have e3:(Opd.t 11 false).ev e=fd:=by simp only[Opd.ev,qY,if_false,e1,hcp]
     rw[e3];split
     ·rename_i q;exact absurd rfl (hf.ny _)
     ·rename_i q;exact absurd rfl (hf.nt _ _)
     ·rw[hf.fn];refine⟨[.v (.bool b)],h1,?_,hK⟩;simpa[e2]using hb
    refine hcall _ _ ?_ ?_ ?_
    ·simp
    ·simp[qw (Nat.le_of_eq hcs)]
    cases b with
    |false=>simp[bJ,hw]
    |true=>simp[AD,bK]
   |false=>
    obtain⟨rfl,y,rfl⟩:=hcx;simp only[TQ,AE,AG,AU,AL,Xf];simp[hkl',AB,bM,bL,hx,hcp2,-BZ];have hcall:∀(K:St→Prop) (e:CH),AF e 11=fd→AF e 15= .v (.int .i64 y)→K ⟨CQ e (some 16) (.v (.bool b)),h1⟩→BZ Tryz.prog An (some 16) (.t 11 false) [.t 15 false] K ⟨e,h⟩:=by
     intro K e e1 e2 hK;unfold BZ;have e3:(Opd.t 11 false).ev e=fd:=by simp only[Opd.ev,qY,if_false,e1,hcp]
     rw[e3];split
     ·rename_i q;exact absurd rfl (hf.ny _)
     ·rename_i q;exact absurd rfl (hf.nt _ _)
     ·rw[hf.fn];refine⟨[.v (.bool b)],h1,?_,hK⟩;simpa[e2]using hb
    refine hcall _ _ ?_ ?_ ?_
    ·simp
    ·simp
    cases b with
    |false=>simp[bJ,hw]
    |true=>simp[AD,bK]
  cases b with
  |false=>
   obtain⟨r',hr1,rfl⟩:=hr;refine A5 (AZ _ ?_ step) (ih (k+1) h1 r' h' hd' (by omega) (λy hy=>hc y (by simp[hy])) hr1 (λe=>hn (by rw[e];rfl)) ?_)
   ·intro e s' h;cases e with
    |normal=>exact h.2
    |exit i=>exact h.elim
    |ret=>cases h.1
   ·intro j e e1 e2;refine hs (j+1) (by rw[e];rfl) e1 ?_;rw[e2];congr 3;omega
  |true=>
   obtain⟨rfl,rfl⟩:=hr;refine Aa (AZ _ ?_ step);intro e s' h;cases e with
   |normal=>cases h.1
   |exit i=>exact h.elim
   |ret=>obtain⟨_,h2,h3⟩:=h;have:=hs 0 rfl s'.e h2;rw[←h3]at this;exact this
variable {h h':List Row} {n:Nat}
theorem pI {s:Nat} {g:Bool} (hk:Cq Tryz.prog An n 2 (cI s g) P7=true) (fd:D) (fid:Nat) (caps:List D) (hf:FV fd fid caps) (xs:List V) (hlen:xs.length <2^40) (hc:∀x∈xs,oX s g x) {r:Option Nat} (hr:IdxR Tryz.prog An fid caps xs h r h'):
  FX n [.v (.list xs),fd] h [.v (.int .i64 (HI r))] h':=by
 refine Ip hk rfl ?_;have hcp:=hf.cp;simp only[D.copy]at hcp;simp only[cI,AE,AG,AU,iC,iB,Ab];simp;refine pg s g fd fid caps hf xs xs.length rfl hlen _ xs 0 h r h' rfl (rF _) hc hr ?_ ?_
 ·rintro rfl e he;simp[AD,iA,P7,HI]
 ·rintro j rfl e he;simp at he;simp[he,P7,HI]
variable {f:Nat}
theorem pJ (hk:Cq Tryz.prog An n 2 (cJ f) P7=true) (fd:D) (fid:Nat) (caps:List D) (hf:FV fd fid caps) (xs:List V) {r:Option Nat} (hp:FX f [.v (.list xs),fd] h [.v (.int .i64 (HI r))] h'):
  FX n [.v (.list xs),fd] h [.v (.bool r.isSome)] h':=by
 refine Ip hk rfl ?_;have hcp:=hf.cp;simp only[D.copy]at hcp;have hnm:=hf.nm;have hge:=XL r;simp only[cJ,AE,AG,hU,gz,Ab];simp[hcp,-D.norm];rw[hnm];refine⟨_,_,hp,?_⟩;simp[AD,P7,hge]
theorem kQ (fd:D) (fid:Nat) (caps:List D) (hf:FV fd fid caps) (xs:List V) (hlen:xs.length <2^40) (hc:∀x∈xs,∃cs,x= .agg cs∧cs.length=4) {r:Option Nat} (hr:IdxR Tryz.prog An fid caps xs h r h'):
  FX 251 [.v (.list xs),fd] h [.v (.int .i64 (HI r))] h':=pI nU fd fid caps hf xs hlen hc hr
theorem kP (fd:D) (fid:Nat) (caps:List D) (hf:FV fd fid caps) (xs:List V) (hlen:xs.length <2^40) (hc:∀x∈xs,∃n,x= .int .i64 n) {r:Option Nat} (hr:IdxR Tryz.prog An fid caps xs h r h'):
  FX 252 [.v (.list xs),fd] h [.v (.int .i64 (HI r))] h':=pI nT fd fid caps hf xs hlen (λx hx=>⟨rfl,hc x hx⟩) hr
theorem kO (fd:D) (fid:Nat) (caps:List D) (hf:FV fd fid caps) (xs:List V) (hlen:xs.length <2^40) (hc:∀x∈xs,∃cs,x= .agg cs∧cs.length=3) {r:Option Nat} (hr:IdxR Tryz.prog An fid caps xs h r h'):
  FX 253 [.v (.list xs),fd] h [.v (.int .i64 (HI r))] h':=pI nQ fd fid caps hf xs hlen hc hr
theorem kD (fd:D) (fid:Nat) (caps:List D) (hf:FV fd fid caps) (xs:List V) (hlen:xs.length <2^40) (hc:∀x∈xs,∃cs,x= .agg cs∧cs.length=3) {r:Option Nat} (hr:IdxR Tryz.prog An fid caps xs h r h'):
  FX 272 [.v (.list xs),fd] h [.v (.int .i64 (HI r))] h':=pI nP fd fid caps hf xs hlen hc hr
theorem jf (fd:D) (fid:Nat) (caps:List D) (hf:FV fd fid caps) (xs:List V) (hlen:xs.length <2^40) (hc:∀x∈xs,∃cs,x= .agg cs∧cs.length=4) {r:Option Nat} (hr:IdxR Tryz.prog An fid caps xs h r h'):
  FX 318 [.v (.list xs),fd] h [.v (.int .i64 (HI r))] h':=pI nM fd fid caps hf xs hlen hc hr
theorem jc (fd:D) (fid:Nat) (caps:List D) (hf:FV fd fid caps) (xs:List V) (hlen:xs.length <2^40) (hc:∀x∈xs,∃cs,x= .agg cs∧cs.length=4) {r:Option Nat} (hr:IdxR Tryz.prog An fid caps xs h r h'):
  FX 323 [.v (.list xs),fd] h [.v (.int .i64 (HI r))] h':=pI nK fd fid caps hf xs hlen hc hr
theorem lq (fd:D) (fid:Nat) (caps:List D) (hf:FV fd fid caps) (xs:List V) (hlen:xs.length <2^40) (hc:∀x∈xs,∃cs,x= .agg cs∧cs.length=4) {r:Option Nat} (hr:IdxR Tryz.prog An fid caps xs h r h'):
  FX 149 [.v (.list xs),fd] h [.v (.bool r.isSome)] h':=pJ nj fd fid caps hf xs (kQ fd fid caps hf xs hlen hc hr)
theorem lk (fd:D) (fid:Nat) (caps:List D) (hf:FV fd fid caps) (xs:List V) (hlen:xs.length <2^40) (hc:∀x∈xs,∃n,x= .int .i64 n) {r:Option Nat} (hr:IdxR Tryz.prog An fid caps xs h r h'):
  FX 151 [.v (.list xs),fd] h [.v (.bool r.isSome)] h':=pJ ni fd fid caps hf xs (kP fd fid caps hf xs hlen hc hr)
theorem lj (fd:D) (fid:Nat) (caps:List D) (hf:FV fd fid caps) (xs:List V) (hlen:xs.length <2^40) (hc:∀x∈xs,∃cs,x= .agg cs∧cs.length=3) {r:Option Nat} (hr:IdxR Tryz.prog An fid caps xs h r h'):
  FX 153 [.v (.list xs),fd] h [.v (.bool r.isSome)] h':=pJ nh fd fid caps hf xs (kO fd fid caps hf xs hlen hc hr)
theorem lP (fd:D) (fid:Nat) (caps:List D) (hf:FV fd fid caps) (xs:List V) (hlen:xs.length <2^40) (hc:∀x∈xs,∃cs,x= .agg cs∧cs.length=3) {r:Option Nat} (hr:IdxR Tryz.prog An fid caps xs h r h'):
  FX 183 [.v (.list xs),fd] h [.v (.bool r.isSome)] h':=pJ nV fd fid caps hf xs (kD fd fid caps hf xs hlen hc hr)
theorem kC (fd:D) (fid:Nat) (caps:List D) (hf:FV fd fid caps) (xs:List V) (hlen:xs.length <2^40) (hc:∀x∈xs,∃cs,x= .agg cs∧cs.length=4) {r:Option Nat} (hr:IdxR Tryz.prog An fid caps xs h r h'):
  FX 277 [.v (.list xs),fd] h [.v (.bool r.isSome)] h':=pJ nO fd fid caps hf xs (jf fd fid caps hf xs hlen hc hr)
theorem jq (fd:D) (fid:Nat) (caps:List D) (hf:FV fd fid caps) (xs:List V) (hlen:xs.length <2^40) (hc:∀x∈xs,∃cs,x= .agg cs∧cs.length=4) {r:Option Nat} (hr:IdxR Tryz.prog An fid caps xs h r h'):
  FX 293 [.v (.list xs),fd] h [.v (.bool r.isSome)] h':=pJ nN fd fid caps hf xs (jc fd fid caps hf xs hlen hc hr)
end
theorem fZ (f:F) (Q:AExit→St→Prop) (hQ:Q .normal ⟨[(1,.ref 0 0),(27,.v (.bool (Ks f)))],[.cells f.cells]⟩):
  awp Tryz.prog An (.reg (oG 144 1) [1,27]) Q ⟨[(1,.ref 0 0)],[.cells f.cells]⟩:=by
 obtain⟨B,hB⟩:∃B,Ks f=B:=⟨_,rfl⟩;rw[hB]at hQ;obtain⟨op,n,ins,kids⟩:=f;simp only[F.cells,Ks,F.op,F.n,F.ins,F.kids]at*;rw[AG];simp only[AA 144 1];by_cases h2:op=2
 ·subst h2;simp at hB;subst hB;simpa using hQ
 ·by_cases hl:0 <ins.length
  ·have hl':0 <(ins.length:Int):=by omega
   simp[h2,hl]at hB;subst hB;simp[h2,hl];exact hQ
  ·have hl':¬0 <(ins.length:Int):=by omega
   have hl2:ins=[]:=by cases ins<;>simp_all
   subst hl2;by_cases h1:op=1
   ·subst h1;simp at hB;subst hB;simpa using hQ
   ·by_cases hn:n=0
    ·subst hn;simp at hB;subst hB;simp[h2,h1];exact hQ
    ·have hn2:(n != 0)=true:=by simpa using hn
     simp[h2,h1,hn]at hB;subst hB;simp[h2,h1,hn2];exact hQ
theorem mA (f:F) (hf:f.ok1):PX 144 [f.V] [.bool (BH f)]:=by
 refine BU 144 ?_;obtain⟨R,hR⟩:∃R,BH f=R:=⟨_,rfl⟩;rw[hR];have hp:=(kU f.ins hf.2.2.1 hf.2.2.2).fsp;rw[At 144];rw[AE,AG];obtain⟨op,n,ins,kids⟩:=f;simp only[F.V_eq,F.ins]at*;simp[AA 144 0,AV];rw[AE,AE];have ha:=fZ ⟨op,n,ins,kids⟩;simp only[F.cells,F.op,F.n,F.ins,F.kids]at ha;refine ha _ ?_;simp[AL];cases ho:Ks ⟨op,n,ins,kids⟩with
 |true=>
  rw[Kc ho]at hR;simp[AE,AG,AD,AA 144 2,AX 144,hR]
 |false=>
  rw[Jb ho]at hR;simp only[F.op,F.n,F.ins,F.kids]at hR;simp only[AB,if_neg tz];simp only[Zw,AA 144 3,AA 144 4,AA 144 5];simp;by_cases h0:op=0
  ·subst h0;simp at hR;simp[AD,AA 144 6,AX 144,Rx,hR]
  ·simp only[h0,if_false]at hR;simp[h0,AA 144 7];by_cases h1:op=1
   ·subst h1;simp at hR;simp[AD,AA 144 8];by_cases hk:kids.length=0
    ·have hk2:kids=[]:=t5.1 hk;subst hk2;by_cases b1:0≤n<;>by_cases b2:n <64<;>simp[b1,b2]at hR<;>simp[b1,b2,AX 144,hR]
    ·have hk2:¬kids=[]:=λh=>hk (by rw[h];rfl);simp[hk2]at hR;simp[hk2,AX 144,hR]
   ·simp only[h1,if_false]at hR;simp[h1,AA 144 9];by_cases h2:op=2
    ·subst h2;simp at hR;simp[AD,AA 144 10];by_cases hk:kids.length=0
     ·have hk2:kids=[]:=t5.1 hk;subst hk2;by_cases b1:0≤n<;>by_cases b2:n <32<;>simp[b1,b2]at hR<;>simp[b1,b2,AX 144,hR]
      refine⟨_,_,hp _,?_⟩;simp;rw[←hR,sL];simp
     ·have hk2:¬kids=[]:=λh=>hk (by rw[h];rfl);simp[hk2]at hR;simp[hk2,AX 144,hR]
    ·simp only[h2,if_false]at hR;simp[h2,AA 144 11];by_cases h3:op=3
     ·subst h3;simp at hR;simp[AB,AD,AA 144 13,AX 144,K6,hR]
     ·simp[h3,AB,AA 144 12];by_cases h6:op=6
      ·subst h6;simp at hR;simp[AD,AA 144 13,AX 144,K6,hR]
      ·simp[h3,h6]at hR;simp[h6,AD,AA 144 14];by_cases h4:op=4<;>by_cases h5:op=5<;>simp[h4,h5]at hR<;>simp[h4,h5,AX 144,hR]
theorem mB:∀f:F,f.ok→PX 143 [f.V] [.int .i64 f.depth]:=by
 refine F.ind λop n ins kids ih hok=>?_;refine BU 143 ?_;have hsz:=hok.2;rw[F.size_eq]at hsz;have hkl:=F.kids_len kids;have hdl:=NO kids;simp only[At 143,AE,AG,AU,AA 143 0,AA 143 1,AA 143 2,AV];simp[F.V_eq];refine Al kids.length (λk s=>s.e=[(3,.v (.int .i64 (F.depths (kids.take k)))),(7,.v (.list (kids.map F.V))),(8,.v (.int .i64 kids.length)),(9,.v (.int .i64 k))]) (by simp[F.depths]) ?_;rintro k ⟨se,sh⟩ hk he;simp only at he;subst he;simp only[Zw,BA 143 0,AA 143 3];simp;by_cases h1:k <kids.length
 ·obtain⟨x,hx⟩:∃x,kids[k]?=some x:=⟨_,qH h1⟩;have hxm:=qJ hx;have hw:=Bo k;have p1:=(ih x hxm (F.ok_kid hok hxm)).fsp;have ht:=Kh hx;rw[if_pos (by omega),AB];simp only[AA 143 4,AA 143 5,AA 143 6];obtain⟨xo,xn,xi,xk⟩:=x;simp[F.V_eq]at p1;simp[hx,F.V_eq,AS];refine⟨_,_,p1 _,?_⟩;simp[hw,h1,ht];split<;>omega
 ·have hk2:k=kids.length:=by omega
  subst hk2;rw[if_neg (by omega),AJ];have hw2:IntKind.i64.wrap ((F.depths kids:Int)+1)=F.depths kids+1:=AQ;simp[AD,AA 143 7,AX 143,hw2,F.depth]
end Go.Va
