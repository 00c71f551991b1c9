/- Laws, part 8. No condition. -/
import Derived.Test.YtdfcjloangkbhaaGreatDoorL03
set_option linter.all false
set_option maxRecDepth 100000
set_option maxHeartbeats 4000000
noncomputable section
namespace Go.Va
open Go.Proofs
theorem p351 (n d:Int) (h1:i64 n) (h2:i64 d):PSp Tryz.prog GLx 176 [ratV n d] [.bool (smallR n d)]:=by
 refine psp_of_awp (Zkk 176) rfl ?_;have hp:=(p127 n d h1 h2).fsp;unfold smallR;simp only[Zga 176,awp_seq,awp_reg,Zge 176 0,entry];simp[ratV]at hp ⊢;simp[Zge 176 1];refine⟨_,_,hp _,?_⟩;cases okR n d with
 |false=>simp[awp_ret,Zgr 176]
 |true=>
  by_cases b1: -1073741824≤n<;>by_cases b2:n≤1073741824<;>simp[b1,b2,awp_ret,Zgr 176]
theorem eqL2 (a b c d:Int):V.eqL [0,0] [.int .i64 a,.int .i64 b] [.int .i64 c,.int .i64 d]=some (decide (a=c∧b=d)):=by
 by_cases h1:a=c<;>by_cases h2:b=d<;>simp[V.eqL,V.eq1,h1,h2]
def Ivl.cells (x:Ivl):List D:=[.v (.int .i64 x.ln),.v (.int .i64 x.ld),.v (.int .i64 x.hn),.v (.int .i64 x.hd),.v (.bool x.lo),.v (.bool x.ho),.v (.bool x.li),.v (.bool x.hi)]
set_option maxHeartbeats 2000000 in
theorem l332a (x:Ivl) (Q:AExit→St→Prop)
  (hQ:Q .normal ⟨[(1,.ref 0 0),(30,.v (.bool ((x.li&&(!decide (x.ln=0∧x.ld=0)||x.lo))||(x.hi&&(!decide (x.hn=0∧x.hd=0)||x.ho)))))],[.cells x.cells]⟩):
  awp Tryz.prog GLx (.reg (oG 138 1) [1,30]) Q ⟨[(1,.ref 0 0)],[.cells x.cells]⟩:=by
 obtain⟨ln,ld,hn,hd,lo,ho,li,hi⟩:=x;rw[awp_reg];simp only[Ivl.cells]at*;simp only[Zge 138 1];have e1:=eqL2 ln ld 0 0;have e2:=eqL2 hn hd 0 0;generalize decide (ln=0∧ld=0)=A at*;generalize decide (hn=0∧hd=0)=B at*;cases li with
 |false=>
  cases hi with
  |false=>simpa using hQ
  |true=>cases B<;>cases ho<;>simp[e2]<;>simpa using hQ
 |true=>
  cases hi with
  |false=>cases A<;>cases lo<;>simp[e1]<;>simpa using hQ
  |true=>cases A<;>cases B<;>cases lo<;>cases ho<;>simp[e1,e2]<;>simpa using hQ
set_option maxHeartbeats 2000000 in
theorem l332b (x:Ivl) (sl sh:Bool) (Q:AExit→St→Prop)
  (hQ:Q .normal ⟨[(1,.ref 0 0),(52,.v (.bool ((!x.li&& !sl)||(!x.hi&& !sh))))],[.cells x.cells]⟩):
  awp Tryz.prog GLx (.reg (oG 138 5) [1,52]) Q ⟨[(1,.ref 0 0),(3,.v (.bool sl)),(4,.v (.bool sh))],[.cells x.cells]⟩:=by
 obtain⟨ln,ld,hn,hd,lo,ho,li,hi⟩:=x;rw[awp_reg];simp only[Ivl.cells]at*;simp only[Zge 138 5];cases li<;>cases hi<;>cases sl<;>cases sh<;>simp<;>simpa using hQ
def goodR (x:Ivl):Bool:=
 if (x.li&&(!decide (x.ln=0∧x.ld=0)||x.lo))||(x.hi&&(!decide (x.hn=0∧x.hd=0)||x.ho)) then false
 else if (!x.li&& !smallR x.ln x.ld)||(!x.hi&& !smallR x.hn x.hd) then false
 else if x.li||x.hi then true
 else if x.ln=x.hn∧x.ld=x.hd then !x.lo&& !x.ho
 else lessR x.ln x.ld x.hn x.hd
set_option maxHeartbeats 2000000 in
theorem p332 (x:Ivl) (hx:x.ok):PSp Tryz.prog GLx 138 [x.V] [.bool (goodR x)]:=by
 refine psp_of_awp (Zkk 138) rfl ?_;have p1:=(p351 x.ln x.ld hx.1 hx.2.1).fsp;have p2:=(p351 x.hn x.hd hx.2.2.1 hx.2.2.2).fsp;obtain⟨R,hR⟩:∃R,goodR x=R:=⟨_,rfl⟩;rw[hR];unfold goodR at hR;rw[Zga 138];rw[awp_seq,awp_reg];simp[Zge 138 0,entry,Ivl.V];rw[awp_seq,awp_seq];refine l332a x _ ?_;generalize ((x.li&&(!decide (x.ln=0∧x.ld=0)||x.lo))||(x.hi&&(!decide (x.hn=0∧x.hd=0)||x.ho)))=g1 at*
 simp[awp_cond];cases g1 with
 |true=>simp at hR;simp[awp_seq,awp_reg,awp_ret,Zge 138 2,Zgr 138,hR]
 |false=>
  simp only[awp_skip,if_neg Bool.false_ne_true]at hR ⊢;rw[awp_seq,awp_reg];simp[ratV]at p1 p2;simp[Zge 138 3,Ivl.cells];refine⟨_,_,p1 _,?_⟩;simp;rw[awp_seq,awp_reg];simp[Zge 138 4];refine⟨_,_,p2 _,?_⟩;simp;rw[awp_seq,awp_seq];refine l332b x (smallR x.ln x.ld) (smallR x.hn x.hd) _ ?_;have hs1:((!x.li&& !smallR x.ln x.ld)||(!x.hi&& !smallR x.hn x.hd))=false→x.li=false→x.hi=false→okR x.ln x.ld=true∧okR x.hn x.hd=true:=by
   intro h h1 h2;rw[h1,h2]at h;simp[smallR]at h;exact⟨h.1.1,h.2.1⟩
  generalize ((!x.li&& !smallR x.ln x.ld)||(!x.hi&& !smallR x.hn x.hd))=g2 at*
  simp[awp_cond];cases g2 with
  |true=>simp at hR;simp[awp_seq,awp_reg,awp_ret,Zge 138 6,Zgr 138,hR]
  |false=>
   simp only[awp_skip,if_neg Bool.false_ne_true]at hR ⊢;obtain⟨ln,ld,hn,hd,lo,ho,li,hi⟩:=x;simp only[Ivl.cells]at*;rw[awp_seq,awp_seq,awp_reg];cases li with
   |true=>simp at hR;simp[Zge 138 7,awp_cond,awp_seq,awp_reg,awp_ret,Zge 138 8,Zgr 138,hR]
   |false=>
    cases hi with
    |true=>simp at hR;simp[Zge 138 7,awp_cond,awp_seq,awp_reg,awp_ret,Zge 138 8,Zgr 138,hR]
    |false=>
     obtain⟨o1,o2⟩:=hs1 trivial rfl rfl;have p3:=(p352 ln ld hn hd o1 o2).fsp;simp[ratV]at p3;simp[Zge 138 7,awp_cond,awp_skip];rw[awp_seq,awp_seq,awp_reg];simp[Zge 138 9,eqL2];by_cases h3:ln=hn∧ld=hd
     ·simp[h3]at hR;cases lo<;>cases ho<;>simp at hR<;>simp[h3,awp_cond,awp_seq,awp_reg,awp_ret,Zge 138 10,Zgr 138,hR]
     ·simp[h3]at hR;simp[h3,awp_cond,awp_skip,awp_seq,awp_reg,Zge 138 11];refine⟨_,_,p3 _,?_⟩;simp[awp_ret,Zgr 138,hR]
def apartR (a b:Ivl):Bool:=
 if a.hi||b.li then false else if a.hn=b.ln∧a.hd=b.ld then a.ho&&b.lo else lessR a.hn a.hd b.ln b.ld
theorem goodR_hi {x:Ivl} (h:goodR x=true) (hi:x.hi=false):smallR x.hn x.hd=true:=by
 unfold goodR at h;by_cases c1:((x.li&&(!decide (x.ln=0∧x.ld=0)||x.lo))||(x.hi&&(!decide (x.hn=0∧x.hd=0)||x.ho)))=true
 ·rw[if_pos c1]at h;cases h
 ·rw[if_neg c1]at h;by_cases c2:((!x.li&& !smallR x.ln x.ld)||(!x.hi&& !smallR x.hn x.hd))=true
  ·rw[if_pos c2]at h;cases h
  ·rw[hi]at c2;simp at c2;exact c2.2
theorem goodR_lo {x:Ivl} (h:goodR x=true) (hi:x.li=false):smallR x.ln x.ld=true:=by
 unfold goodR at h;by_cases c1:((x.li&&(!decide (x.ln=0∧x.ld=0)||x.lo))||(x.hi&&(!decide (x.hn=0∧x.hd=0)||x.ho)))=true
 ·rw[if_pos c1]at h;cases h
 ·rw[if_neg c1]at h;by_cases c2:((!x.li&& !smallR x.ln x.ld)||(!x.hi&& !smallR x.hn x.hd))=true
  ·rw[if_pos c2]at h;cases h
  ·rw[hi]at c2;simp at c2;exact c2.1
theorem smallR_ok {n d:Int} (h:smallR n d=true):okR n d=true:=by unfold smallR at h;simp at h;exact h.1
theorem p353 (x y:Ivl) (gx:goodR x=true) (gy:goodR y=true):PSp Tryz.prog GLx 226 [x.V,y.V] [.bool (apartR x y)]:=by
 refine psp_of_awp (Zkk 226) rfl ?_;have q1:=goodR_hi gx;have q2:=goodR_lo gy;obtain⟨R,hR⟩:∃R,apartR x y=R:=⟨_,rfl⟩;rw[hR];unfold apartR at hR;obtain⟨ln,ld,hn,hd,lo,ho,li,hi⟩:=x;obtain⟨ln',ld',hn',hd',lo',ho',li',hi'⟩:=y;simp only[Ivl.V]at*;rw[Zga 226];rw[awp_seq,awp_reg];simp[Zge 226 0,entry];rw[awp_seq,awp_seq,awp_reg];cases hi with
 |true=>simp at hR;simp[Zge 226 1,awp_cond,awp_seq,awp_reg,awp_ret,Zge 226 2,Zgr 226,hR]
 |false=>
  cases li' with
  |true=>simp at hR;simp[Zge 226 1,awp_cond,awp_seq,awp_reg,awp_ret,Zge 226 2,Zgr 226,hR]
  |false=>
   have p3:=(p352 hn hd ln' ld' (smallR_ok (q1 rfl)) (smallR_ok (q2 rfl))).fsp;simp[ratV]at p3;simp[Zge 226 1,awp_cond,awp_skip];rw[awp_seq,awp_seq,awp_reg];simp[Zge 226 3,eqL2];by_cases h3:hn=ln'∧hd=ld'
   ·simp[h3]at hR;cases ho<;>simp at hR<;>simp[h3,awp_cond,awp_seq,awp_reg,awp_ret,Zge 226 4,Zgr 226,hR]
   ·simp[h3]at hR;simp[h3,awp_cond,awp_skip,awp_seq,awp_reg,Zge 226 5];refine⟨_,_,p3 _,?_⟩;simp[awp_ret,Zgr 226,hR]
theorem dvd_of_co {b a d:Int} (hc:Int.gcd b a=1) (h3:b ∣ a*d):b ∣ d:=by
 have h3n:b.natAbs ∣ a.natAbs*d.natAbs:=by rw[←Int.natAbs_mul];exact Int.natAbs_dvd_natAbs.2 h3
 have hc':Nat.Coprime b.natAbs a.natAbs:=hc;exact Int.natAbs_dvd_natAbs.1 (hc'.dvd_of_dvd_mul_left h3n)
theorem ratio_eq {a b c d:Int} (h1:okR a b=true) (h2:okR c d=true) (h:a*d=c*b):a=c∧b=d:=by
 unfold okR at h1 h2;simp at h1 h2;obtain⟨b1,_,_,_,g1⟩:=h1;obtain⟨d1,_,_,_,g2⟩:=h2;have e1:b ∣ d:=by
  have h3:b ∣ a*d:=by rw[h];exact Int.dvd_mul_left _ _
  have:Int.gcd b a=1:=by rw[Int.gcd_comm];exact g1
  exact dvd_of_co this h3
 have e2:d ∣ b:=by
  have h3:d ∣ c*b:=by rw[←h];exact Int.dvd_mul_left _ _
  have:Int.gcd d c=1:=by rw[Int.gcd_comm];exact g2
  exact dvd_of_co this h3
 have e3:b=d:=by
  have:=Int.le_of_dvd (by omega) e1;have:=Int.le_of_dvd (by omega) e2;omega
 subst e3;exact⟨Int.eq_of_mul_eq_mul_right (by omega) h,rfl⟩
theorem good_same (x:Ivl):goodR x=goodE x:=by
 obtain⟨ln,ld,hn,hd,lo,ho,li,hi⟩:=x;unfold goodE goodR limE;cases li<;>cases hi<;>simp only[loE,hiE,lessE]
 ·cases hs1:smallR ln ld<;>cases hs2:smallR hn hd<;>simp
  have r:=ratio_eq (smallR_ok hs1) (smallR_ok hs2);by_cases h3:ln=hn∧ld=hd
  ·obtain⟨rfl,rfl⟩:=h3;simp
  ·rw[if_neg h3];rw[if_neg (λh=>h3 (r h))];rfl
 ·generalize hA:decide (hn=0∧hd=0)=A;cases A<;>cases ho<;>cases smallR ln ld<;>simp
 ·simp
 ·simp
theorem apart_same (x y:Ivl) (gx:goodR x=true) (gy:goodR y=true):apartR x y=lessE (hiE x) (loE y):=by
 have q1:=goodR_hi gx;have q2:=goodR_lo gy;obtain⟨ln,ld,hn,hd,lo,ho,li,hi⟩:=x;obtain⟨ln',ld',hn',hd',lo',ho',li',hi'⟩:=y;unfold apartR;cases hi<;>cases li'<;>simp only[loE,hiE,lessE]
 ·simp at q1 q2;have r:=ratio_eq (smallR_ok q1) (smallR_ok q2);by_cases h3:hn=ln'∧hd=ld'
  ·obtain⟨rfl,rfl⟩:=h3;simp
  ·simp;rw[if_neg h3,if_neg (λh=>h3 (r h))];rfl
 ·simp
 ·simp
 ·simp
theorem p338 (l:List Ivl) (hl:∀x∈l,x.ok) (hn:l.length≤2^40):PSp Tryz.prog GLx 174 [.list (l.map Ivl.V)] [.int .i64 (spanE l)]:=by
 refine psp_of_awp (Zkk 174) rfl ?_;simp only[Zga 174,awp_seq,awp_reg,awp_block,Zge 174 0,Zge 174 1,entry];simp;refine awp_loop_inv l.length (λk=>⟨[(0,.v (.list (l.map Ivl.V))),(3,.v (.int .i64 k))],[]⟩) (λk=>∀j <k,badAt l j=false) (by simp) (by omega) ?_;intro k hk hg;simp only[Zgl 174 0,awp_seq,awp_reg,awp_block,awp_cond,Zge 174 2];simp;by_cases h1:k <l.length
 ·obtain⟨x,hx⟩:∃x,l[k]?=some x:=⟨_,List.getElem?_eq_getElem h1⟩;have hxm:=List.mem_of_getElem? hx;have hw:IntKind.i64.wrap ((k:Int)+1)=k+1:=wrap_i64 (by omega) (by omega);have p1:=(p332 x (hl x hxm)).fsp;rw[if_pos (by omega),awp_skip];simp only[Zge 174 4];simp[Ivl.V]at p1;simp[hx,Ivl.V];refine⟨_,_,p1 _,?_⟩;simp only[awp_regD,Zge 174 5];simp;cases hgx:goodR x with
  |false=>
   have hb:badAt l k=true:=by unfold badAt;rw[hx];simp[←good_same,hgx]
   simp[awp_ret,Zge 174 6,Zgr 174];unfold spanE;rw[any_bad h1 hb];rfl
  |true=>
   cases k with
   |zero=>
    have hb:badAt l 0=false:=by unfold badAt;rw[hx];simp[←good_same,hgx]
    simp at hw;simp[awp_skip,Zge 174 3,hw,h1];exact hb
   |succ j=>
    obtain⟨y,hy⟩:∃y,l[j]?=some y:=⟨_,List.getElem?_eq_getElem (by omega)⟩;have hgy:goodR y=true:=by
     have:=hg j (by omega);unfold badAt at this;rw[hy]at this;simp at this;rw[good_same];exact this.1
    have p2:=p353 y x hgy hgx;rw[apart_same y x hgy hgx]at p2;have hw2:IntKind.i64.wrap (j:Int)=j:=wrap_i64 (by omega) (by omega);simp[Ivl.V]at p2;have h9:(0:Int) <(j:Int)+1:=by omega
    have h10:(0:Int)≤(j:Int)+1:=by omega
    simp[hw2,hy,Ivl.V,hx,h10];refine⟨_,_,⟨rfl,rfl⟩,_,p2,?_⟩;simp;cases hle:lessE (hiE y) (loE x)with
    |false=>
     have hb:badAt l (j+1)=true:=by unfold badAt;rw[hx];simp[hy,hle]
     simp[awp_ret,Zge 174 6,Zgr 174];unfold spanE;rw[any_bad h1 hb];rfl
    |true=>
     have hb:badAt l (j+1)=false:=by unfold badAt;rw[hx];simp[←good_same,hgx,hy,hle]
     simp at hw;simp[awp_skip,Zge 174 3,hw,h1];intro i hi;rcases Nat.lt_or_ge i (j+1)with h|h
     ·exact hg i h
     ·have:i=j+1:=by omega
      subst this;exact hb
 ·have hk2:k=l.length:=by omega
  subst hk2;rw[if_neg (by omega),awp_exit];simp only[Zge 174 7];unfold spanE;rw[any_good hg];by_cases h:32 <(l.length:Int)
  ·have h':32 <l.length:=by omega
   simp[h,h',awp_ret,Zge 174 8,Zgr 174]
  ·have h':¬32 <l.length:=by omega
   simp[h,h',awp_skip,awp_ret,Zge 174 9,Zgr 174]
def IdxR (P:Program) (GL:Globals) (fid:Nat) (caps:List D):List V→List Row→Option Nat→List Row→Prop
 |[],h,r,h'=>r=none∧h'=h
 |x::xs,h,r,h'=>∃b h1,FSp P GL fid (.v x::caps) h [.v (.bool b)] h1∧if b then r=some 0∧h'=h1 else ∃r',IdxR P GL fid caps xs h1 r' h'∧r=r'.map (· +1)
def idxI:Option Nat→Int
 |none=> -1
 |some k=>k
theorem findIdx_any {α:Type} (p:α→Bool) (xs:List α):(xs.findIdx? p).isSome=xs.any p:=by
 induction xs with
 |nil=>rfl
 |cons x xs ih=>
  cases hx:p x with
  |true=>simp[List.findIdx?_cons,hx]
  |false=>simp only[List.findIdx?_cons,hx,List.any_cons,Bool.false_or,Bool.false_eq_true,if_false,Option.isSome_map];exact ih
theorem idxI_ge (r:Option Nat):(0≤idxI r)↔r.isSome=true:=by
 cases r with
 |none=>simp[idxI]
 |some k=>simp[idxI]
structure FV (fd:D) (fid:Nat) (caps:List D):Prop where
 cp:fd.copy=fd
 fn:fnOf fd=some (fid,caps)
 nm:fd.norm=fd
 ny:∀r,fd≠ .yld r
 nt:∀a b,fd≠ .meth a b
theorem FV.v (fid:Nat) (vs:List V):FV (.v (.func fid vs)) fid (vs.map .v):=⟨rfl,rfl,rfl,(λ_ h=>by cases h),(λ_ _ h=>by cases h)⟩
theorem FV.r (fid r o:Nat) (caps:List D):FV (.func fid (.ref r o::caps)) fid (.ref r o::caps):=by
 have e:D.norm (.func fid (.ref r o::caps))= .func fid (.ref r o::caps):=by simp[D.norm,D.vs?,D.v?]
 exact⟨rfl,by unfold fnOf;rw[e],e,(λ_ h=>by cases h),(λ_ _ h=>by cases h)⟩
def okE (s:Nat):Bool→V→Prop
 |true,x=>∃cs,x= .agg cs∧cs.length=s
 |false,x=>s=1∧∃n,x= .int .i64 n
theorem lIa (s:Nat) (g:Bool) (fd:D) (fid:Nat) (caps:List D) (hf:FV fd fid caps) (all:List V) (m:Nat) (hm2:all.length=m) (hlen:m <2^40)
  (Q:AExit→St→Prop):∀(xs:List V) (k:Nat) (h:List Row) (r:Option Nat) (h':List Row),all.drop k=xs→k≤m→(∀x∈xs,okE s g x)→IdxR Tryz.prog GLx fid caps xs h r h'→
  (r=none→∀e,find e 0= .v (.list all)→Q (.exit 0) ⟨e,h'⟩)→(∀j,r=some j→∀e,find e 4= .v (.int .i64 ((k+j:Nat):Int))→Q .ret ⟨e,h'⟩)→
  awp Tryz.prog GLx (.loop (cIl0 s g)) Q ⟨[(0,.v (.list all)),(1,fd),(7,.v (.int .i64 m)),(8,.v (.int .i64 k))],h⟩:=by
 have hfn:=hf.nm;have hcp:=hf.cp;have hcp2:=hf.cp;simp only[D.copy]at hcp2;intro xs;induction xs with
 |nil=>
  rintro k h r h' hd hk hc ⟨rfl,rfl⟩ hn hs;have h0:m≤k:=by rw[←hm2];exact List.drop_eq_nil_iff.1 hd
  refine awp_loop_end ?_;simp only[cIl0,awp_seq,awp_reg,awp_block,awp_cond,cIr2];have h2:¬(k:Int) <m:=by omega
  simp[h2,awp_exit];exact hn rfl _ rfl
 |cons x xs ih=>
  rintro k h r h' hd hk hc ⟨b,h1,hb,hr⟩ hn hs;have hx:all[k]?=some x:=by have:=congrArg (·[0]?) hd;simpa using this
  have hkl:k <m:=by rw[←hm2];exact(List.getElem?_eq_some_iff.1 hx).1
  have hd':all.drop (k+1)=xs:=by have:=congrArg (List.drop 1) hd;simpa using this
  have hw:IntKind.i64.wrap ((k:Int)+1)=k+1:=wrap_i64 (by omega) (by omega);have hkl':(k:Int) <m:=by omega
  have hcx:=hc x (by simp);have step:awp Tryz.prog GLx (cIl0 s g) (λe s'=>match e with| .normal=>b=false∧s'=⟨[(0,.v (.list all)),(1,fd),(7,.v (.int .i64 m)),(8,.v (.int .i64 (k+1:Nat)))],h1⟩| .ret=>b=true∧find s'.e 4= .v (.int .i64 k)∧s'.h=h1| .exit _=>False) ⟨[(0,.v (.list all)),(1,fd),(7,.v (.int .i64 m)),(8,.v (.int .i64 k))],h⟩:=by
   cases g with
   |true=>
    obtain⟨cs,rfl,hcs⟩:=hcx;simp only[cIl0,awp_seq,awp_reg,awp_block,awp_cond,cIr2];simp[hkl',awp_skip,cIr3,cIr4,hx,hcp2,-awpCall,hcs];have hcall:∀(K:St→Prop) (e:Env),find e 11=fd→find e 15= .v (.agg cs)→K ⟨setO e (some 16) (.v (.bool b)),h1⟩→awpCall Tryz.prog GLx (some 16) (.t 11 false) [.t 15 false] K ⟨e,h⟩:=by
     intro K e e1 e2 hK;unfold awpCall;have e3:(Opd.t 11 false).ev e=fd:=by simp only[Opd.ev,findF_eq,Bool.false_eq_true,if_false,e1,hcp]
     rw[e3];split
     ·rename_i q;exact absurd rfl (hf.ny _)
     ·rename_i q;exact absurd rfl (hf.nt _ _)
     ·rw[hf.fn];refine⟨[.v (.bool b)],h1,?_,hK⟩;simpa[e2]using hb
    refine hcall _ _ ?_ ?_ ?_
    ·simp
    ·simp[List.take_of_length_le (Nat.le_of_eq hcs)]
    cases b with
    |false=>simp[cIr6,hw]
    |true=>simp[awp_ret,cIr5]
   |false=>
    obtain⟨rfl,y,rfl⟩:=hcx;simp only[cIl0,awp_seq,awp_reg,awp_block,awp_cond,cIr2];simp[hkl',awp_skip,cIr3,cIr4,hx,hcp2,-awpCall];have hcall:∀(K:St→Prop) (e:Env),find e 11=fd→find e 15= .v (.int .i64 y)→K ⟨setO e (some 16) (.v (.bool b)),h1⟩→awpCall Tryz.prog GLx (some 16) (.t 11 false) [.t 15 false] K ⟨e,h⟩:=by
     intro K e e1 e2 hK;unfold awpCall;have e3:(Opd.t 11 false).ev e=fd:=by simp only[Opd.ev,findF_eq,Bool.false_eq_true,if_false,e1,hcp]
     rw[e3];split
     ·rename_i q;exact absurd rfl (hf.ny _)
     ·rename_i q;exact absurd rfl (hf.nt _ _)
     ·rw[hf.fn];refine⟨[.v (.bool b)],h1,?_,hK⟩;simpa[e2]using hb
    refine hcall _ _ ?_ ?_ ?_
    ·simp
    ·simp
    cases b with
    |false=>simp[cIr6,hw]
    |true=>simp[awp_ret,cIr5]
  cases b with
  |false=>
   obtain⟨r',hr1,rfl⟩:=hr;refine awp_loop_one (awp_mono _ ?_ step) (ih (k+1) h1 r' h' hd' (by omega) (λy hy=>hc y (by simp[hy])) hr1 (λe=>hn (by rw[e];rfl)) ?_)
   ·intro e s' h;cases e with
    |normal=>exact h.2
    |exit i=>exact h.elim
    |ret=>cases h.1
   ·intro j e e1 e2;refine hs (j+1) (by rw[e];rfl) e1 ?_;rw[e2];congr 3;omega
  |true=>
   obtain⟨rfl,rfl⟩:=hr;refine awp_loop_end (awp_mono _ ?_ step);intro e s' h;cases e with
   |normal=>cases h.1
   |exit i=>exact h.elim
   |ret=>obtain⟨_,h2,h3⟩:=h;have:=hs 0 rfl s'.e h2;rw[←h3]at this;exact this
theorem pI {n s:Nat} {g:Bool} (hk:chkF Tryz.prog GLx n 2 (cI s g) cIR=true) (fd:D) (fid:Nat) (caps:List D) (hf:FV fd fid caps) (xs:List V) (hlen:xs.length <2^40) (hc:∀x∈xs,okE s g x) {h h':List Row} {r:Option Nat} (hr:IdxR Tryz.prog GLx fid caps xs h r h'):
  FSp Tryz.prog GLx n [.v (.list xs),fd] h [.v (.int .i64 (idxI r))] h':=by
 refine fsp_of_awp hk rfl ?_;have hcp:=hf.cp;simp only[D.copy]at hcp;simp only[cI,awp_seq,awp_reg,awp_block,cIr0,cIr1,entryD];simp;refine lIa s g fd fid caps hf xs xs.length rfl hlen _ xs 0 h r h' rfl (Nat.zero_le _) hc hr ?_ ?_
 ·rintro rfl e he;simp[awp_ret,cIr7,cIR,idxI]
 ·rintro j rfl e he;simp at he;simp[he,cIR,idxI]
theorem pJ {n f:Nat} (hk:chkF Tryz.prog GLx n 2 (cJ f) cIR=true) (fd:D) (fid:Nat) (caps:List D) (hf:FV fd fid caps) (xs:List V) {h h':List Row} {r:Option Nat} (hp:FSp Tryz.prog GLx f [.v (.list xs),fd] h [.v (.int .i64 (idxI r))] h'):
  FSp Tryz.prog GLx n [.v (.list xs),fd] h [.v (.bool r.isSome)] h':=by
 refine fsp_of_awp hk rfl ?_;have hcp:=hf.cp;simp only[D.copy]at hcp;have hnm:=hf.nm;have hge:=idxI_ge r;simp only[cJ,awp_seq,awp_reg,cJr0,cJr1,entryD];simp[hcp,-D.norm];rw[hnm];refine⟨_,_,hp,?_⟩;simp[awp_ret,cIR,hge]
theorem p251 (fd:D) (fid:Nat) (caps:List D) (hf:FV fd fid caps) (xs:List V) (hlen:xs.length <2^40) (hc:∀x∈xs,∃cs,x= .agg cs∧cs.length=4) {h h':List Row} {r:Option Nat} (hr:IdxR Tryz.prog GLx fid caps xs h r h'):
  FSp Tryz.prog GLx 122 [.v (.list xs),fd] h [.v (.int .i64 (idxI r))] h':=pI k251 fd fid caps hf xs hlen hc hr
theorem p252 (fd:D) (fid:Nat) (caps:List D) (hf:FV fd fid caps) (xs:List V) (hlen:xs.length <2^40) (hc:∀x∈xs,∃n,x= .int .i64 n) {h h':List Row} {r:Option Nat} (hr:IdxR Tryz.prog GLx fid caps xs h r h'):
  FSp Tryz.prog GLx 123 [.v (.list xs),fd] h [.v (.int .i64 (idxI r))] h':=pI k252 fd fid caps hf xs hlen (λx hx=>⟨rfl,hc x hx⟩) hr
theorem p253 (fd:D) (fid:Nat) (caps:List D) (hf:FV fd fid caps) (xs:List V) (hlen:xs.length <2^40) (hc:∀x∈xs,∃cs,x= .agg cs∧cs.length=3) {h h':List Row} {r:Option Nat} (hr:IdxR Tryz.prog GLx fid caps xs h r h'):
  FSp Tryz.prog GLx 124 [.v (.list xs),fd] h [.v (.int .i64 (idxI r))] h':=pI k253 fd fid caps hf xs hlen hc hr
theorem p254 (fd:D) (fid:Nat) (caps:List D) (hf:FV fd fid caps) (xs:List V) (hlen:xs.length <2^40) (hc:∀x∈xs,∃cs,x= .agg cs∧cs.length=3) {h h':List Row} {r:Option Nat} (hr:IdxR Tryz.prog GLx fid caps xs h r h'):
  FSp Tryz.prog GLx 125 [.v (.list xs),fd] h [.v (.int .i64 (idxI r))] h':=pI k254 fd fid caps hf xs hlen hc hr
theorem p307 (fd:D) (fid:Nat) (caps:List D) (hf:FV fd fid caps) (xs:List V) (hlen:xs.length <2^40) (hc:∀x∈xs,∃cs,x= .agg cs∧cs.length=8) {h h':List Row} {r:Option Nat} (hr:IdxR Tryz.prog GLx fid caps xs h r h'):
  FSp Tryz.prog GLx 166 [.v (.list xs),fd] h [.v (.int .i64 (idxI r))] h':=pI k307 fd fid caps hf xs hlen hc hr
theorem p149 (fd:D) (fid:Nat) (caps:List D) (hf:FV fd fid caps) (xs:List V) (hlen:xs.length <2^40) (hc:∀x∈xs,∃cs,x= .agg cs∧cs.length=4) {h h':List Row} {r:Option Nat} (hr:IdxR Tryz.prog GLx fid caps xs h r h'):
  FSp Tryz.prog GLx 74 [.v (.list xs),fd] h [.v (.bool r.isSome)] h':=pJ k149 fd fid caps hf xs (p251 fd fid caps hf xs hlen hc hr)
theorem p151 (fd:D) (fid:Nat) (caps:List D) (hf:FV fd fid caps) (xs:List V) (hlen:xs.length <2^40) (hc:∀x∈xs,∃n,x= .int .i64 n) {h h':List Row} {r:Option Nat} (hr:IdxR Tryz.prog GLx fid caps xs h r h'):
  FSp Tryz.prog GLx 76 [.v (.list xs),fd] h [.v (.bool r.isSome)] h':=pJ k151 fd fid caps hf xs (p252 fd fid caps hf xs hlen hc hr)
theorem p153 (fd:D) (fid:Nat) (caps:List D) (hf:FV fd fid caps) (xs:List V) (hlen:xs.length <2^40) (hc:∀x∈xs,∃cs,x= .agg cs∧cs.length=3) {h h':List Row} {r:Option Nat} (hr:IdxR Tryz.prog GLx fid caps xs h r h'):
  FSp Tryz.prog GLx 78 [.v (.list xs),fd] h [.v (.bool r.isSome)] h':=pJ k153 fd fid caps hf xs (p253 fd fid caps hf xs hlen hc hr)
theorem p256 (fd:D) (fid:Nat) (caps:List D) (hf:FV fd fid caps) (xs:List V) (hlen:xs.length <2^40) (hc:∀x∈xs,∃cs,x= .agg cs∧cs.length=8) {h h':List Row} {r:Option Nat} (hr:IdxR Tryz.prog GLx fid caps xs h r h'):
  FSp Tryz.prog GLx 127 [.v (.list xs),fd] h [.v (.bool r.isSome)] h':=pJ k256 fd fid caps hf xs (p307 fd fid caps hf xs hlen hc hr)
inductive F where
 |mk (op n:Int) (ins:List Ivl) (kids:List F)
def F.op:F→Int| .mk o _ _ _=>o
def F.n:F→Int| .mk _ n _ _=>n
def F.ins:F→List Ivl| .mk _ _ i _=>i
def F.kids:F→List F| .mk _ _ _ k=>k
theorem F.ind {p:F→Prop} (h:∀op n ins kids,(∀k∈kids,p k)→p (.mk op n ins kids)) (f:F):p f:=
 F.rec (motive_1:=p) (motive_2:=λl=>∀k∈l,p k) (λop n ins kids ih=>h op n ins kids ih) (λk hk=>by cases hk)
  (λx xs hx hxs k hk=>by cases hk with|head=>exact hx|tail _ hk=>exact hxs k hk) f
mutual
def F.V:F→V| .mk op n ins kids=> .agg [.int .i64 op,.int .i64 n,.list (ins.map Ivl.V),.list (F.Vs kids)]
def F.Vs:List F→List V|[]=>[]|k::ks=>k.V::F.Vs ks
end
theorem F.Vs_map:∀l,F.Vs l=l.map F.V
 |[]=>rfl
 |k::ks=>by simp[F.Vs,F.Vs_map ks]
mutual
def F.nodes:F→List F| .mk op n ins kids=> .mk op n ins kids::F.nodess kids
def F.nodess:List F→List F|[]=>[]|k::ks=>k.nodes++F.nodess ks
end
theorem F.nodess_map:∀l,F.nodess l=l.flatMap F.nodes
 |[]=>rfl
 |k::ks=>by simp[F.nodess,F.nodess_map ks]
def F.size (f:F):Nat:=f.nodes.length
mutual
def F.depth:F→Nat| .mk _ _ _ kids=>F.depths kids+1
def F.depths:List F→Nat|[]=>0|k::ks=>max k.depth (F.depths ks)
end
theorem F.size_eq (op n:Int) (ins:List Ivl) (kids:List F):(F.mk op n ins kids).size=1+(kids.map F.size).sum:=by
 unfold F.size;simp only[F.nodes,List.length_cons,F.nodess_map,List.length_flatMap];have e:(λf:F=>f.size)=λf=>f.nodes.length:=rfl;rw[Nat.add_comm]
theorem F.kid_size {f:F} {kids:List F} (h:f∈kids):f.size≤(kids.map F.size).sum:=by
 induction kids with
 |nil=>cases h
 |cons k ks ih=>
  simp only[List.map_cons,List.sum_cons];cases h with
  |head=>omega
  |tail _ h=>have:=ih h;omega
theorem F.size_pos (f:F):1≤f.size:=by cases f;rw[F.size_eq];omega
theorem F.kids_len (kids:List F):kids.length≤(kids.map F.size).sum:=by
 induction kids with
 |nil=>simp
 |cons k ks ih=>have:=k.size_pos;simp only[List.map_cons,List.sum_cons,List.length_cons];omega
theorem F.nodes_eq (op n:Int) (ins:List Ivl) (kids:List F):(F.mk op n ins kids).nodes= .mk op n ins kids::kids.flatMap F.nodes:=by
 simp[F.nodes,F.nodess_map]
theorem F.V_eq (op n:Int) (ins:List Ivl) (kids:List F):(F.mk op n ins kids).V= .agg [.int .i64 op,.int .i64 n,.list (ins.map Ivl.V),.list (kids.map F.V)]:=by
 simp[F.V,F.Vs_map]
theorem F.depth_le:∀f:F,f.depth≤f.size:=by
 refine F.ind λop n ins kids ih=>?_;rw[F.size_eq,F.depth];have:F.depths kids≤(kids.map F.size).sum:=by
  induction kids with
  |nil=>simp[F.depths]
  |cons k ks ihk=>
   have h1:=ih k (by simp);have h2:=ihk λx hx=>ih x (by simp[hx]);simp only[F.depths,List.map_cons,List.sum_cons];omega
 omega
def F.ok1 (f:F):Prop:=i64 f.op∧i64 f.n∧(∀x∈f.ins,x.ok)∧f.ins.length≤2^40
def F.ok (f:F):Prop:=(∀g∈f.nodes,g.ok1)∧f.size≤2^40
theorem F.ok_kid {op n:Int} {ins:List Ivl} {kids:List F} (h:(F.mk op n ins kids).ok) {k:F} (hk:k∈kids):k.ok:=by
 refine⟨λg hg=>h.1 g ?_,?_⟩
 ·rw[F.nodes_eq];exact List.mem_cons_of_mem _ (List.mem_flatMap.2 ⟨k,hk,hg⟩)
 ·have:=h.2;rw[F.size_eq]at this;have:=F.kid_size hk;omega
def formedF (f:F):Bool:=
 if (f.op≠2∧0 <f.ins.length)∨(f.op≠2∧f.op≠1∧f.n≠0) then false
 else if f.op=0 then f.kids.length==0
 else if f.op=1 then decide (f.kids.length=0∧0≤f.n∧f.n <64)
 else if f.op=2 then decide (f.kids.length=0∧0≤f.n∧f.n <32∧spanE f.ins=0)
 else if f.op=3∨f.op=6 then f.kids.length==1
 else decide (f.op=4∨f.op=5)
def formE (f:F):Int:=if f.size>96∨f.depth>8 then 4 else if f.nodes.all formedF then 0 else 1
def F.cells (f:F):List D:=[.v (.int .i64 f.op),.v (.int .i64 f.n),.v (.list (f.ins.map Ivl.V)),.v (.list (f.kids.map F.V))]
theorem F.ok1_self {f:F} (h:f.ok):f.ok1:=h.1 f (by cases f;rw[F.nodes_eq];exact List.mem_cons_self)
theorem sum_take {l:List F} {k:Nat} {x:F} (hx:l[k]?=some x) (f:F→Nat):((l.map f).take (k+1)).sum=((l.map f).take k).sum+f x:=by
 rw[List.take_add_one,List.getElem?_map,hx];simp
theorem sum_take_le (l:List F) (k:Nat) (f:F→Nat):((l.map f).take k).sum≤(l.map f).sum:=by
 have:=congrArg (λl=>l.sum) (List.take_append_drop k (l.map f));simp only[List.sum_append]at this;omega
theorem take_map_len {l:List F} {f:F→Nat}:(l.map f).take l.length=l.map f:=List.take_of_length_le (by simp)
theorem p285:∀f:F,f.ok→PSp Tryz.prog GLx 97 [f.V] [.int .i64 f.size]:=by
 refine F.ind λop n ins kids ih hok=>?_;refine psp_of_awp (Zkk 97) rfl ?_;have hsz:=hok.2;rw[F.size_eq]at hsz ⊢;have hkl:=F.kids_len kids;simp only[Zga 97,awp_seq,awp_reg,awp_block,Zge 97 0,Zge 97 1,Zge 97 2,entry];simp[F.V_eq];refine awp_loop_nat0 kids.length (λk=>⟨[(1,.ref 0 0),(3,.v (.int .i64 (1+((kids.map F.size).take k).sum:Nat))),(4,.v (.int .i64 k))],[.cells (F.mk op n ins kids).cells]⟩) (by simp[F.cells,F.op,F.n,F.ins,F.kids]) ?_;intro k hk;simp only[Zgl 97 0,awp_seq,awp_reg,awp_block,awp_cond,Zge 97 3,F.cells,F.op,F.n,F.ins,F.kids];simp;by_cases h1:k <kids.length
 ·obtain⟨x,hx⟩:∃x,kids[k]?=some x:=⟨_,List.getElem?_eq_getElem h1⟩;have hxm:=List.mem_of_getElem? hx;have hw:IntKind.i64.wrap ((k:Int)+1)=k+1:=wrap_i64 (by omega) (by omega);have p1:=(ih x hxm (F.ok_kid hok hxm)).fsp;have ht:=sum_take hx F.size;have hle:=sum_take_le kids (k+1) F.size;have hw2:IntKind.i64.wrap (1+(((kids.map F.size).take k).sum:Int)+x.size)=1+(((kids.map F.size).take (k+1)).sum:Int):=by
   rw[wrap_i64 (by omega) (by omega)];omega
  rw[if_pos (by omega),awp_skip];simp only[Zge 97 4,Zge 97 5];obtain⟨xo,xn,xi,xk⟩:=x;simp[F.V_eq]at p1;simp[hx,F.V_eq];refine⟨_,_,p1 _,?_⟩;simp[hw,hw2,h1]
 ·have hk2:k=kids.length:=by omega
  subst hk2;rw[if_neg (by omega),awp_exit];simp[awp_ret,Zge 97 6,Zgr 97,take_map_len]
theorem depths_take {l:List F} {k:Nat} {x:F} (hx:l[k]?=some x):F.depths (l.take (k+1))=max (F.depths (l.take k)) x.depth:=by
 induction l generalizing k with
 |nil=>simp at hx
 |cons y l ih=>
  cases k with
  |zero=>simp at hx;subst hx;simp[F.depths]
  |succ k=>simp at hx;simp only[List.take_succ_cons,F.depths,ih hx];omega
theorem depths_le (l:List F):F.depths l≤(l.map F.size).sum:=by
 induction l with
 |nil=>simp[F.depths]
 |cons k ks ih=>have:=F.depth_le k;simp only[F.depths,List.map_cons,List.sum_cons];omega
theorem p286:∀f:F,f.ok→PSp Tryz.prog GLx 98 [f.V] [.int .i64 f.depth]:=by
 refine F.ind λop n ins kids ih hok=>?_;refine psp_of_awp (Zkk 98) rfl ?_;have hsz:=hok.2;rw[F.size_eq]at hsz;have hkl:=F.kids_len kids;have hdl:=depths_le kids;simp only[Zga 98,awp_seq,awp_reg,awp_block,Zge 98 0,Zge 98 1,Zge 98 2,entry];simp[F.V_eq];refine awp_loop_nat0 kids.length (λk=>⟨[(1,.ref 0 0),(3,.v (.int .i64 (F.depths (kids.take k)))),(4,.v (.int .i64 k))],[.cells (F.mk op n ins kids).cells]⟩) (by simp[F.cells,F.op,F.n,F.ins,F.kids,F.depths]) ?_;intro k hk;simp only[Zgl 98 0,awp_seq,awp_reg,awp_block,awp_cond,Zge 98 3,F.cells,F.op,F.n,F.ins,F.kids];simp;by_cases h1:k <kids.length
 ·obtain⟨x,hx⟩:∃x,kids[k]?=some x:=⟨_,List.getElem?_eq_getElem h1⟩;have hxm:=List.mem_of_getElem? hx;have hw:IntKind.i64.wrap ((k:Int)+1)=k+1:=wrap_i64 (by omega) (by omega);have p1:=(ih x hxm (F.ok_kid hok hxm)).fsp;have ht:=depths_take hx;rw[if_pos (by omega),awp_skip];simp only[Zge 98 4,Zge 98 5];obtain⟨xo,xn,xi,xk⟩:=x;simp[F.V_eq]at p1;simp[hx,F.V_eq];refine⟨_,_,p1 _,?_⟩;simp[hw,h1,ht];split<;>omega
 ·have hk2:k=kids.length:=by omega
  subst hk2;rw[if_neg (by omega),awp_exit];have hw2:IntKind.i64.wrap ((F.depths kids:Int)+1)=F.depths kids+1:=wrap_i64 (by omega) (by omega);simp[awp_ret,Zge 98 6,Zgr 98,hw2,F.depth]
theorem natBeq0 (n:Nat):((n:Int)==0)=(n==0):=by rw[Bool.eq_iff_iff];simp
theorem natBeq1 (n:Nat):((n:Int)==1)=(n==1):=by rw[Bool.eq_iff_iff];simp;omega
def odd1 (f:F):Bool:=decide ((f.op≠2∧0 <f.ins.length)∨(f.op≠2∧f.op≠1∧f.n≠0))
set_option maxHeartbeats 2000000 in
theorem l322a (f:F) (Q:AExit→St→Prop) (hQ:Q .normal ⟨[(1,.ref 0 0),(26,.v (.bool (odd1 f)))],[.cells f.cells]⟩):
  awp Tryz.prog GLx (.reg (oG 135 1) [1,26]) Q ⟨[(1,.ref 0 0)],[.cells f.cells]⟩:=by
 obtain⟨B,hB⟩:∃B,odd1 f=B:=⟨_,rfl⟩;rw[hB]at hQ;obtain⟨op,n,ins,kids⟩:=f;simp only[F.cells,odd1,F.op,F.n,F.ins,F.kids]at*;rw[awp_reg];simp only[Zge 135 1];by_cases h2:op=2
 ·subst h2;simp at hB;subst hB;simpa using hQ
 ·by_cases hl:0 <ins.length
  ·have hl':0 <(ins.length:Int):=by omega
   simp[h2,hl]at hB;subst hB;simp[h2,hl];exact hQ
  ·have hl':¬0 <(ins.length:Int):=by omega
   have hl2:ins=[]:=by cases ins<;>simp_all
   subst hl2;by_cases h1:op=1
   ·subst h1;simp at hB;subst hB;simpa using hQ
   ·by_cases hn:n=0
    ·subst hn;simp at hB;subst hB;simp[h2,h1];exact hQ
    ·have hn2:(n != 0)=true:=by simpa using hn
     simp[h2,h1,hn]at hB;subst hB;simp[h2,h1,hn2];exact hQ
theorem formedF_odd {f:F} (h:odd1 f=true):formedF f=false:=by
 unfold formedF;unfold odd1 at h;rw[if_pos (of_decide_eq_true h)]
theorem formedF_even {f:F} (h:odd1 f=false):formedF f=if f.op=0 then f.kids.length==0
 else if f.op=1 then decide (f.kids.length=0∧0≤f.n∧f.n <64)
 else if f.op=2 then decide (f.kids.length=0∧0≤f.n∧f.n <32∧spanE f.ins=0)
 else if f.op=3∨f.op=6 then f.kids.length==1
 else decide (f.op=4∨f.op=5):=by
 unfold formedF;unfold odd1 at h;rw[if_neg (of_decide_eq_false h)]
set_option maxHeartbeats 4000000 in
theorem p322 (f:F) (hf:f.ok1):PSp Tryz.prog GLx 135 [f.V] [.bool (formedF f)]:=by
 refine psp_of_awp (Zkk 135) rfl ?_;obtain⟨R,hR⟩:∃R,formedF f=R:=⟨_,rfl⟩;rw[hR];have hp:=(p338 f.ins hf.2.2.1 hf.2.2.2).fsp;rw[Zga 135];rw[awp_seq,awp_reg];obtain⟨op,n,ins,kids⟩:=f;simp only[F.V_eq,F.ins]at*;simp[Zge 135 0,entry];rw[awp_seq,awp_seq];have ha:=l322a ⟨op,n,ins,kids⟩;simp only[F.cells,F.op,F.n,F.ins,F.kids]at ha;refine ha _ ?_;simp[awp_cond];cases ho:odd1 ⟨op,n,ins,kids⟩with
 |true=>
  rw[formedF_odd ho]at hR;simp[awp_seq,awp_reg,awp_ret,Zge 135 2,Zgr 135,hR]
 |false=>
  rw[formedF_even ho]at hR;simp only[F.op,F.n,F.ins,F.kids]at hR;simp only[awp_skip,if_neg Bool.false_ne_true];simp only[awp_seq,awp_reg,awp_block,awp_cond,Zge 135 3,Zge 135 4];simp;by_cases h0:op=0
  ·subst h0;simp at hR;simp[awp_ret,Zge 135 5,Zgr 135,natBeq0,hR]
  ·simp only[h0,if_false]at hR;simp[h0,Zge 135 6];by_cases h1:op=1
   ·subst h1;simp at hR;simp[awp_ret,Zge 135 7];by_cases hk:kids.length=0
    ·have hk2:kids=[]:=List.length_eq_zero_iff.1 hk;subst hk2;by_cases b1:0≤n<;>by_cases b2:n <64<;>simp[b1,b2]at hR<;>simp[b1,b2,Zgr 135,hR]
    ·have hk2:¬kids=[]:=λh=>hk (by rw[h];rfl);simp[hk2]at hR;simp[hk2,Zgr 135,hR]
   ·simp only[h1,if_false]at hR;simp[h1,Zge 135 8];by_cases h2:op=2
    ·subst h2;simp at hR;simp[awp_ret,Zge 135 9];by_cases hk:kids.length=0
     ·have hk2:kids=[]:=List.length_eq_zero_iff.1 hk;subst hk2;by_cases b1:0≤n<;>by_cases b2:n <32<;>simp[b1,b2]at hR<;>simp[b1,b2,Zgr 135,hR]
      refine⟨_,_,hp _,?_⟩;simp;rw[←hR,Bool.eq_iff_iff];simp
     ·have hk2:¬kids=[]:=λh=>hk (by rw[h];rfl);simp[hk2]at hR;simp[hk2,Zgr 135,hR]
    ·simp only[h2,if_false]at hR;simp[h2,Zge 135 10];by_cases h3:op=3
     ·subst h3;simp at hR;simp[awp_skip,awp_ret,Zge 135 12,Zgr 135,natBeq1,hR]
     ·simp[h3,awp_skip,Zge 135 11];by_cases h6:op=6
      ·subst h6;simp at hR;simp[awp_ret,Zge 135 12,Zgr 135,natBeq1,hR]
      ·simp[h3,h6]at hR;simp[h6,awp_ret,Zge 135 13];by_cases h4:op=4<;>by_cases h5:op=5<;>simp[h4,h5]at hR<;>simp[h4,h5,Zgr 135,hR]
def wholeF (f:F):Bool:=f.nodes.all formedF
theorem wholeF_eq (op n:Int) (ins:List Ivl) (kids:List F):wholeF (.mk op n ins kids)=(formedF (.mk op n ins kids)&&kids.all wholeF):=by
 unfold wholeF;rw[F.nodes_eq,List.all_cons,List.all_flatMap]
theorem p287:∀f:F,f.ok→PSp Tryz.prog GLx 99 [f.V] [.bool (wholeF f)]:=by
 refine F.ind λop n ins kids ih hok=>?_;refine psp_of_awp (Zkk 99) rfl ?_;obtain⟨R,hR⟩:∃R,wholeF (.mk op n ins kids)=R:=⟨_,rfl⟩;rw[hR];rw[wholeF_eq]at hR;have hsz:=hok.2;rw[F.size_eq]at hsz;have hkl:=F.kids_len kids;have hp:=(p322 _ (F.ok1_self hok)).fsp;generalize formedF (.mk op n ins kids)=fm at*;simp only[Zga 99,awp_seq,awp_reg,awp_block,awp_cond,Zge 99 0,Zge 99 1,entry];simp[F.V_eq]at hp ⊢;refine⟨_,_,hp _,?_⟩;cases fm with
 |false=>simp at hR;simp[awp_ret,Zge 99 2,Zgr 99,hR]
 |true=>
  simp only[Bool.true_and]at hR;simp[awp_skip,Zge 99 3];refine awp_loop_inv kids.length (λk=>⟨[(1,.ref 0 0),(3,.v (.int .i64 k))],[.cells (F.mk op n ins kids).cells]⟩) (λk=>∀x∈kids.take k,wholeF x=true) (by simp[F.cells,F.op,F.n,F.ins,F.kids]) (by simp) ?_;intro k hk hI;simp only[Zgl 99 0,awp_seq,awp_reg,awp_block,awp_cond,Zge 99 4,F.cells,F.op,F.n,F.ins,F.kids];simp;by_cases h1:k <kids.length
  ·obtain⟨x,hx⟩:∃x,kids[k]?=some x:=⟨_,List.getElem?_eq_getElem h1⟩;have hxm:=List.mem_of_getElem? hx;have hw:IntKind.i64.wrap ((k:Int)+1)=k+1:=wrap_i64 (by omega) (by omega);have p1:=(ih x hxm (F.ok_kid hok hxm)).fsp;rw[if_pos (by omega),awp_skip];simp only[Zge 99 6];cases hwx:wholeF x with
   |false=>
    have:kids.all wholeF=false:=by rw[List.all_eq_false];exact⟨x,hxm,by simp[hwx]⟩
    rw[this]at hR;obtain⟨xo,xn,xi,xk⟩:=x;simp[F.V_eq,hwx]at p1;simp[hx,F.V_eq];refine⟨_,_,p1 _,?_⟩;simp[awp_ret,Zge 99 7,Zgr 99,hR]
   |true=>
    have ht:∀y∈kids.take (k+1),wholeF y=true:=by
     rw[List.take_add_one,hx];intro y hy;simp at hy;rcases hy with hy|rfl
     ·exact hI y hy
     ·exact hwx
    obtain⟨xo,xn,xi,xk⟩:=x;simp[F.V_eq,hwx]at p1;simp[hx,F.V_eq];refine⟨_,_,p1 _,?_⟩;simp[awp_skip,Zge 99 5,hw,h1];exact ht
  ·have hk2:k=kids.length:=by omega
   subst hk2;rw[if_neg (by omega),awp_exit];have:kids.all wholeF=true:=by rw[List.all_eq_true];simpa using hI
   rw[this]at hR;simp[awp_ret,Zge 99 8,Zgr 99,hR]
theorem p214 (f:F) (hok:f.ok):PSp Tryz.prog GLx 58 [f.V] [.int .i64 (formE f)]:=by
 refine psp_of_awp (Zkk 58) rfl ?_;obtain⟨R,hR⟩:∃R,formE f=R:=⟨_,rfl⟩;rw[hR];unfold formE at hR;have e:f.nodes.all formedF=wholeF f:=rfl;rw[e]at hR;have h1:=(p285 f hok).fsp;have h2:=(p286 f hok).fsp;have h3:=(p287 f hok).fsp;obtain⟨op,n,ins,kids⟩:=f;simp only[Zga 58,awp_seq,awp_reg,awp_cond,Zge 58 0,Zge 58 1,entry];simp[F.V_eq]at h1 h2 h3 ⊢;refine⟨_,_,h1 _,?_⟩;generalize F.size (.mk op n ins kids)=sz at*;generalize F.depth (.mk op n ins kids)=dp at*;by_cases b1:96 <sz
 ·have b1':96 <(sz:Int):=by omega
  simp[b1]at hR;simp[b1',awp_ret,Zge 58 2,Zgr 58,hR]
 ·have b1':¬96 <(sz:Int):=by omega
  simp[b1'];refine⟨_,_,h2 _,?_⟩;by_cases b2:8 <dp
  ·have b2':8 <(dp:Int):=by omega
   simp[b2]at hR;simp[b2',awp_ret,Zge 58 2,Zgr 58,hR]
  ·have b2':¬8 <(dp:Int):=by omega
   simp[b1,b2]at hR;simp[b2',awp_skip,Zge 58 3];refine⟨_,_,h3 _,?_⟩;cases hw:wholeF (.mk op n ins kids)with
   |false=>simp[hw]at hR;simp[awp_ret,Zge 58 4,Zgr 58,hR]
   |true=>simp[hw]at hR;simp[awp_ret,Zge 58 5,Zgr 58,hR]
set_option maxHeartbeats 2000000 in
theorem l144a (f:F) (Q:AExit→St→Prop) (hQ:Q .normal ⟨[(1,.ref 0 0),(27,.v (.bool (odd1 f)))],[.cells f.cells]⟩):
  awp Tryz.prog GLx (.reg (oG 71 1) [1,27]) Q ⟨[(1,.ref 0 0)],[.cells f.cells]⟩:=by
 obtain⟨B,hB⟩:∃B,odd1 f=B:=⟨_,rfl⟩;rw[hB]at hQ;obtain⟨op,n,ins,kids⟩:=f;simp only[F.cells,odd1,F.op,F.n,F.ins,F.kids]at*;rw[awp_reg];simp only[Zge 71 1];by_cases h2:op=2
 ·subst h2;simp at hB;subst hB;simpa using hQ
 ·by_cases hl:0 <ins.length
  ·have hl':0 <(ins.length:Int):=by omega
   simp[h2,hl]at hB;subst hB;simp[h2,hl];exact hQ
  ·have hl':¬0 <(ins.length:Int):=by omega
   have hl2:ins=[]:=by cases ins<;>simp_all
   subst hl2;by_cases h1:op=1
   ·subst h1;simp at hB;subst hB;simpa using hQ
   ·by_cases hn:n=0
    ·subst hn;simp at hB;subst hB;simp[h2,h1];exact hQ
    ·have hn2:(n != 0)=true:=by simpa using hn
     simp[h2,h1,hn]at hB;subst hB;simp[h2,h1,hn2];exact hQ
set_option maxHeartbeats 4000000 in
theorem p144 (f:F) (hf:f.ok1):PSp Tryz.prog GLx 71 [f.V] [.bool (formedF f)]:=by
 refine psp_of_awp (Zkk 71) rfl ?_;obtain⟨R,hR⟩:∃R,formedF f=R:=⟨_,rfl⟩;rw[hR];have hp:=(p246 f.ins hf.2.2.1 hf.2.2.2).fsp;rw[Zga 71];rw[awp_seq,awp_reg];obtain⟨op,n,ins,kids⟩:=f;simp only[F.V_eq,F.ins]at*;simp[Zge 71 0,entry];rw[awp_seq,awp_seq];have ha:=l144a ⟨op,n,ins,kids⟩;simp only[F.cells,F.op,F.n,F.ins,F.kids]at ha;refine ha _ ?_;simp[awp_cond];cases ho:odd1 ⟨op,n,ins,kids⟩with
 |true=>
  rw[formedF_odd ho]at hR;simp[awp_seq,awp_reg,awp_ret,Zge 71 2,Zgr 71,hR]
 |false=>
  rw[formedF_even ho]at hR;simp only[F.op,F.n,F.ins,F.kids]at hR;simp only[awp_skip,if_neg Bool.false_ne_true];simp only[awp_seq,awp_reg,awp_block,awp_cond,Zge 71 3,Zge 71 4,Zge 71 5];simp;by_cases h0:op=0
  ·subst h0;simp at hR;simp[awp_ret,Zge 71 6,Zgr 71,natBeq0,hR]
  ·simp only[h0,if_false]at hR;simp[h0,Zge 71 7];by_cases h1:op=1
   ·subst h1;simp at hR;simp[awp_ret,Zge 71 8];by_cases hk:kids.length=0
    ·have hk2:kids=[]:=List.length_eq_zero_iff.1 hk;subst hk2;by_cases b1:0≤n<;>by_cases b2:n <64<;>simp[b1,b2]at hR<;>simp[b1,b2,Zgr 71,hR]
    ·have hk2:¬kids=[]:=λh=>hk (by rw[h];rfl);simp[hk2]at hR;simp[hk2,Zgr 71,hR]
   ·simp only[h1,if_false]at hR;simp[h1,Zge 71 9];by_cases h2:op=2
    ·subst h2;simp at hR;simp[awp_ret,Zge 71 10];by_cases hk:kids.length=0
     ·have hk2:kids=[]:=List.length_eq_zero_iff.1 hk;subst hk2;by_cases b1:0≤n<;>by_cases b2:n <32<;>simp[b1,b2]at hR<;>simp[b1,b2,Zgr 71,hR]
      refine⟨_,_,hp _,?_⟩;simp;rw[←hR,Bool.eq_iff_iff];simp
     ·have hk2:¬kids=[]:=λh=>hk (by rw[h];rfl);simp[hk2]at hR;simp[hk2,Zgr 71,hR]
    ·simp only[h2,if_false]at hR;simp[h2,Zge 71 11];by_cases h3:op=3
     ·subst h3;simp at hR;simp[awp_skip,awp_ret,Zge 71 13,Zgr 71,natBeq1,hR]
     ·simp[h3,awp_skip,Zge 71 12];by_cases h6:op=6
      ·subst h6;simp at hR;simp[awp_ret,Zge 71 13,Zgr 71,natBeq1,hR]
      ·simp[h3,h6]at hR;simp[h6,awp_ret,Zge 71 14];by_cases h4:op=4<;>by_cases h5:op=5<;>simp[h4,h5]at hR<;>simp[h4,h5,Zgr 71,hR]
theorem p143:∀f:F,f.ok→PSp Tryz.prog GLx 70 [f.V] [.int .i64 f.depth]:=by
 refine F.ind λop n ins kids ih hok=>?_;refine psp_of_awp (Zkk 70) rfl ?_;have hsz:=hok.2;rw[F.size_eq]at hsz;have hkl:=F.kids_len kids;have hdl:=depths_le kids;simp only[Zga 70,awp_seq,awp_reg,awp_block,Zge 70 0,Zge 70 1,Zge 70 2,entry];simp[F.V_eq];refine awp_loop_I kids.length (λk s=>s.e=[(3,.v (.int .i64 (F.depths (kids.take k)))),(7,.v (.list (kids.map F.V))),(8,.v (.int .i64 kids.length)),(9,.v (.int .i64 k))]) (by simp[F.depths]) ?_;rintro k ⟨se,sh⟩ hk he;simp only at he;subst he;simp only[Zgl 70 0,awp_seq,awp_reg,awp_block,awp_cond,Zge 70 3];simp;by_cases h1:k <kids.length
 ·obtain⟨x,hx⟩:∃x,kids[k]?=some x:=⟨_,List.getElem?_eq_getElem h1⟩;have hxm:=List.mem_of_getElem? hx;have hw:IntKind.i64.wrap ((k:Int)+1)=k+1:=wrap_i64 (by omega) (by omega);have p1:=(ih x hxm (F.ok_kid hok hxm)).fsp;have ht:=depths_take hx;rw[if_pos (by omega),awp_skip];simp only[Zge 70 4,Zge 70 5,Zge 70 6];obtain⟨xo,xn,xi,xk⟩:=x;simp[F.V_eq]at p1;simp[hx,F.V_eq,putL];refine⟨_,_,p1 _,?_⟩;simp[hw,h1,ht];split<;>omega
 ·have hk2:k=kids.length:=by omega
  subst hk2;rw[if_neg (by omega),awp_exit];have hw2:IntKind.i64.wrap ((F.depths kids:Int)+1)=F.depths kids+1:=wrap_i64 (by omega) (by omega);simp[awp_ret,Zge 70 7,Zgr 70,hw2,F.depth]
def RunY (P:Program) (GL:Globals) (r:Nat):List V→List Row→Bool→List Row→Prop
 |[],X,b,X'=>b=true∧X'=X
 |n::ns,X,b,X'=>∃b1 X1,X1.length=X.length∧(∀J,∃J2,YSp P GL r [.v n] (X++J) b1 (X1++(J++J2)))∧if b1 then RunY P GL r ns X1 b X' else b=false∧X'=X1
section
variable {P:Program} {GL:Globals} {r:Nat}
theorem RunY.len:∀ {ns:List V} {X:List Row} {b:Bool} {X':List Row},RunY P GL r ns X b X'→X'.length=X.length
 |[],X,b,X',h=>by rw[h.2]
 |n::ns,X,b,X',h=>by
  obtain⟨b1,X1,h1,_,h2⟩:=h;cases b1 with
  |true=>rw[RunY.len h2,h1]
  |false=>rw[h2.2,h1]
theorem RunY.app:∀ {xs ys:List V} {X:List Row} {b:Bool} {X':List Row},RunY P GL r (xs++ys) X b X'→∃b1 X1,RunY P GL r xs X b1 X1∧if b1 then RunY P GL r ys X1 b X' else b=false∧X'=X1
 |[],ys,X,b,X',h=>⟨true,X,⟨rfl,rfl⟩,h⟩
 |x::xs,ys,X,b,X',h=>by
  obtain⟨b1,X1,h1,h2,h3⟩:=h;cases b1 with
  |true=>
   obtain⟨b2,X2,h4,h5⟩:=RunY.app (xs:=xs) h3;exact⟨b2,X2,⟨true,X1,h1,h2,h4⟩,h5⟩
  |false=>exact⟨false,X1,⟨false,X1,h1,h2,rfl,rfl⟩,h3⟩
end
theorem p150 (x:F) (c:Nat) (h:List Row) (a:Nat) (hc:h[c]?=some (.cells [.func 73 [.ref a 0,.ref c 0]])) (b:Bool) (h':List Row)
  (hp:FSp Tryz.prog GLx 73 [.v x.V,.ref a 0,.ref c 0] (h++[.cells x.cells]) [.v (.bool b)] h'):FSp Tryz.prog GLx 75 [.v x.V,.ref c 0] h [.v (.bool (!b))] h':=by
 refine fsp_of_awp (Zkk 75) rfl ?_;have hc2:=get_old [.cells x.cells] hc;obtain⟨xo,xn,xi,xk⟩:=x;simp only[F.cells,F.op,F.n,F.ins,F.kids,F.V_eq]at*;simp only[Zga 75,awp_seq,awp_reg,Zge 75 0,Zge 75 1,entryD];simp[hc2,D.vs?,D.v?];refine⟨_,_,hp,?_⟩;simp[awp_ret,Zgr 75]
theorem l148 (r:Nat) (a c:Nat) (kids:List F) (hk:∀k∈kids,∀X b X' J i j,a=X.length+i→c=X.length+j→RunY Tryz.prog GLx r (k.nodes.map F.V) X b X'→J[i]?=some (.cells [.yld r])→J[j]?=some (.cells [.func 73 [.ref a 0,.ref c 0]])→
   ∃J',FSp Tryz.prog GLx 73 [.v k.V,.ref a 0,.ref c 0] (X++J) [.v (.bool b)] (X'++(J++J'))):
  ∀(X:List Row) (b:Bool) (X':List Row) (J:List Row) (i j:Nat),a=X.length+i→c=X.length+j→RunY Tryz.prog GLx r ((kids.flatMap F.nodes).map F.V) X b X'→J[i]?=some (.cells [.yld r])→J[j]?=some (.cells [.func 73 [.ref a 0,.ref c 0]])→
   ∃J' q,IdxR Tryz.prog GLx 75 [.ref c 0] (kids.map F.V) (X++J) q (X'++(J++J'))∧q.isSome= !b:=by
 induction kids with
 |nil=>
  rintro X b X' J i j ha hc ⟨rfl,rfl⟩ hi hj;exact⟨[],none,⟨rfl,by simp⟩,rfl⟩
 |cons k ks ih=>
  intro X b X' J i j ha hc hr hi hj;rw[List.flatMap_cons,List.map_append]at hr;obtain⟨b1,X1,h1,h2⟩:=hr.app;have hl:=h1.len;obtain⟨J1,hp⟩:=hk k (by simp) X b1 X1 (J++[.cells k.cells]) i j ha hc h1 (get_old _ hi) (get_old _ hj);have hcc:(X++J)[c]?=some (.cells [.func 73 [.ref a 0,.ref c 0]]):=by rw[get_appk X J c j hc];exact hj
  rw[←List.append_assoc]at hp;have hq:=p150 k c (X++J) a hcc b1 _ hp;cases b1 with
  |true=>
   simp only[if_true]at h2;obtain⟨J2,q,h3,h4⟩:=ih (λx hx=>hk x (by simp[hx])) X1 b X' (J++[.cells k.cells]++J1) i j (by rw[hl];exact ha) (by rw[hl];exact hc) h2 (get_old _ (get_old _ hi)) (get_old _ (get_old _ hj));refine⟨[.cells k.cells]++J1++J2,q.map (· +1),⟨false,_,hq,?_⟩,by cases q<;>simpa using h4⟩
   simp only[Bool.false_eq_true,if_false];refine⟨q,?_,rfl⟩;simpa[List.append_assoc]using h3
  |false=>
   simp only[Bool.false_eq_true,if_false]at h2;obtain⟨rfl,rfl⟩:=h2;refine⟨[.cells k.cells]++J1,some 0,⟨true,_,hq,?_⟩,rfl⟩;simp[List.append_assoc]
theorem p148 (r:Nat) (a c:Nat):∀f:F,f.ok→∀X b X' J i j,a=X.length+i→c=X.length+j→RunY Tryz.prog GLx r (f.nodes.map F.V) X b X'→J[i]?=some (.cells [.yld r])→J[j]?=some (.cells [.func 73 [.ref a 0,.ref c 0]])→
   ∃J',FSp Tryz.prog GLx 73 [.v f.V,.ref a 0,.ref c 0] (X++J) [.v (.bool b)] (X'++(J++J')):=by
 refine F.ind λop n ins kids ih hok=>?_;intro X b X' J i j ha hc hr hi hj;have hsz:=hok.2;rw[F.size_eq]at hsz;have hkl:=F.kids_len kids;rw[F.nodes_eq,List.map_cons]at hr;obtain⟨b1,X1,hl,hy,hr2⟩:=hr;obtain⟨J2,hy2⟩:=hy (J++[.cells (F.mk op n ins kids).cells]);have ga:(X++(J++[.cells (F.mk op n ins kids).cells]))[a]?=some (.cells [.yld r]):=by rw[get_appk X _ a i ha];exact get_old _ hi
 have gc:(X++(J++[.cells (F.mk op n ins kids).cells]))[c]?=some (.cells [.func 73 [.ref a 0,.ref c 0]]):=by rw[get_appk X _ c j hc];exact get_old _ hj
 have gf:(X++(J++[.cells (F.mk op n ins kids).cells]))[X.length+J.length]?=some (.cells (F.mk op n ins kids).cells):=by rw[get_appk X _ _ J.length rfl];simp
 have gf2:(X1++(J++[.cells (F.mk op n ins kids).cells]++J2))[X.length+J.length]?=some (.cells (F.mk op n ins kids).cells):=by rw[get_appk X1 _ _ J.length (by rw[hl])];simp
 have hkids:∀x∈kids.map F.V,∃cs,x=V.agg cs∧cs.length=4:=by
  intro x hx;obtain⟨k,_,rfl⟩:=List.mem_map.1 hx;obtain⟨ko,kn,ki,kk⟩:=k;exact⟨_,F.V_eq ..,rfl⟩
 have e0:X++J++[.cells (F.mk op n ins kids).cells]=X++(J++[.cells (F.mk op n ins kids).cells]):=List.append_assoc ..;cases b1 with
 |false=>
  obtain⟨rfl,rfl⟩:=hr2;refine⟨[.cells (F.mk op n ins kids).cells]++J2,fsp_of_awp (Zkk 73) rfl ?_⟩;simp only[F.cells,F.op,F.n,F.ins,F.kids,F.V_eq]at*;simp only[Zga 73,awp_seq,awp_reg,Zge 73 0,Zge 73 1,entryD];simp[-Bool.exists_bool];simp[ga,-Bool.exists_bool];refine⟨_,_,hy2,?_⟩;simp[awp_ret,Zgr 73]
 |true=>
  simp only[if_true]at hr2;obtain⟨J3,q,hidx,hq⟩:=l148 r a c kids (λk hk=>ih k hk (F.ok_kid hok hk)) X1 b X' (J++[.cells (F.mk op n ins kids).cells]++J2) i j (by rw[hl];exact ha) (by rw[hl];exact hc) hr2 (get_old _ (get_old _ hi)) (get_old _ (get_old _ hj));have hp:=p149 (.func 75 [.ref c 0]) 75 [.ref c 0] (FV.r 75 c 0 []) (kids.map F.V) (by simp;omega) hkids hidx;refine⟨[.cells (F.mk op n ins kids).cells]++J2++J3,fsp_of_awp (Zkk 73) rfl ?_⟩;simp only[F.cells,F.op,F.n,F.ins,F.kids,F.V_eq]at*;simp only[Zga 73,awp_seq,awp_reg,Zge 73 0,Zge 73 1,entryD];simp[-Bool.exists_bool];simp[ga,-Bool.exists_bool];refine⟨_,_,hy2,?_⟩;simp at gf2;simp[gf2,D.vs?,D.v?];simp at hp;rw[hq]at hp;refine⟨_,_,hp,?_⟩;simp[awp_ret,Zgr 73]
theorem p68 (f:F) (h:List Row):FSp Tryz.prog GLx 40 [.v f.V] h [.func 72 [.ref h.length 0]] (h++[.cells f.cells]):=by
 refine fsp_of_awp (Zkk 40) rfl ?_;obtain⟨op,n,ins,kids⟩:=f;simp[Zga 40,awp,Zge 40 0,Zge 40 1,Zgr 40,entryD,F.V_eq,F.cells,F.op,F.n,F.ins,F.kids,D.vs?,D.v?]
theorem p147 (f:F) (hok:f.ok) (r q:Nat) (X:List Row) (b:Bool) (X':List Row) (hr:RunY Tryz.prog GLx r (f.nodes.map F.V) X b X') (hq:X[q]?=some (.cells f.cells)):
  ∃J,FSp Tryz.prog GLx 72 [.yld r,.ref q 0] X [] (X'++J):=by
 obtain⟨J',hp⟩:=p148 r X.length (X.length+1) f hok X b X' [.cells [.yld r],.cells [.func 73 [.ref X.length 0,.ref (X.length+1) 0]]] 0 1 rfl rfl hr rfl rfl;refine⟨[.cells [.yld r],.cells [.func 73 [.ref X.length 0,.ref (X.length+1) 0]]]++J',fsp_of_awp (Zkk 72) rfl ?_⟩;obtain⟨op,n,ins,kids⟩:=f;have hq2:=get_old [.cells [.yld r],.cells [.func 73 [.ref X.length 0,.ref (X.length+1) 0]]] hq;simp only[F.cells,F.op,F.n,F.ins,F.kids,F.V_eq]at*;simp only[Zga 72,awp_seq,awp_reg,Zge 72 0,Zge 72 1,Zge 72 2,Zge 72 3,entryD];simp[putL,D.v?]
 try simp at hq2
 simp[hq2];exact⟨⟨_,hp⟩,rfl⟩
theorem l142 (A B:Row) (e0:Env) (he:find e0 3= .ref 1 0):∀(ns:List V) (k:Nat),k+ns.length≤2^41→
  RunY Tryz.prog GLx 3 ns [A,.cells [.v (.int .i64 k)],B,recRow Tryz.prog GLx .ready e0 [6] (lG 69 0) (lG 69 1000)] true [A,.cells [.v (.int .i64 (k+ns.length:Nat))],B,recRow Tryz.prog GLx .ready e0 [6] (lG 69 0) (lG 69 1000)]:=by
 intro ns;induction ns with
 |nil=>intro k _;exact⟨rfl,rfl⟩
 |cons n ns ih=>
  intro k hk;simp only[List.length_cons]at hk;refine⟨true,[A,.cells [.v (.int .i64 (k+1:Nat))],B,recRow Tryz.prog GLx .ready e0 [6] (lG 69 0) (lG 69 1000)],rfl,λJ=>⟨[],?_⟩,?_⟩
  ·refine ysp_of_awp (e0:=e0) (ps:=[6]) (asg:=(lG 69 0)) (body:=(lG 69 1000)) (by simp) rfl ?_;have hw:IntKind.i64.wrap ((k:Int)+1)=k+1:=wrap_i64 (by omega) (by omega);simp only[setPs,Zgl 69 0,Zgl 69 1000,awp_reg,awp_block,awp_skip,Zge 69 3];simp[he,hw,putL,roundEnd]
  ·have:=ih (k+1) (by omega);have e:k+1+ns.length=k+(n::ns).length:=by simp;omega
   rw[e]at this;exact this
theorem p142 (f:F) (hok:f.ok):PSp Tryz.prog GLx 69 [f.V] [.int .i64 f.size]:=by
 refine psp_of_awp (Zkk 69) rfl ?_;have hsz:=hok.2;have h68:=p68 f;have hr:=l142 (.cells f.cells) (.cells f.cells) (cpE [(3,.ref 1 0),(5,.func 72 [.ref 2 0])]) rfl (f.nodes.map F.V) 0 (by simp;unfold F.size at hsz;omega);obtain⟨J,hp⟩:=p147 f hok 3 2 _ _ _ hr rfl;have e1:(f.nodes.map F.V).length=f.size:=by simp[F.size]
 rw[e1,Nat.zero_add]at hp;generalize f.size=sz at*;obtain⟨op,n,ins,kids⟩:=f;simp only[F.cells,F.op,F.n,F.ins,F.kids,F.V_eq]at*;simp only[Zga 69,awp_seq,awp_reg,awp_block,Zge 69 0,Zge 69 1,Zge 69 2,entry];simp[putL];refine⟨_,_,h68 _,?_⟩;simp;refine awp_range_of 72 [.ref 2 0] [] _ _ .ready rfl rfl hp rfl ?_;simp[rangeEnd,Zge 69 4,awp_ret,Zgr 69]
theorem y66 (A B:Row) (e0:Env) (he:find e0 2= .ref 1 0) (g:F) (hg:g.ok1) (J:List Row):∃J2,YSp Tryz.prog GLx 3 [.v g.V] ([A,.cells [.v (.int .i64 0)],B,recRow Tryz.prog GLx .ready e0 [14] (lG 39 0) (lG 39 1000)]++J) (formedF g)
   ((if formedF g then [A,.cells [.v (.int .i64 0)],B,recRow Tryz.prog GLx .ready e0 [14] (lG 39 0) (lG 39 1000)] else [A,.cells [.v (.int .i64 1)],B,recRow Tryz.prog GLx (.done none) e0 [14] (lG 39 0) (lG 39 1000)])++(J++J2)):=by
 refine⟨[.cells g.cells],ysp_of_awp (e0:=e0) (ps:=[14]) (asg:=(lG 39 0)) (body:=(lG 39 1000)) (by simp) rfl ?_⟩;have hp:=(p144 g hg).fsp;generalize formedF g=b at*;obtain⟨op,n,ins,kids⟩:=g;simp only[F.cells,F.op,F.n,F.ins,F.kids,F.V_eq]at*;simp only[setPs,Zgl 39 0,Zgl 39 1000,awp_reg,awp_block,awp_seq,awp_cond,Zge 39 4,Zge 39 5];have e:J.length+1+1+1+1=J.length+4:=by omega
 simp[he,putL];simp at hp;refine⟨_,_,hp _,?_⟩;cases b with
 |true=>simp[awp_skip,roundEnd]
 |false=>simp[awp_ret,Zge 39 6,putL,roundEnd]
theorem l66 (A B:Row) (e0:Env) (he:find e0 2= .ref 1 0):∀(ns:List F),(∀g∈ns,g.ok1)→
  RunY Tryz.prog GLx 3 (ns.map F.V) [A,.cells [.v (.int .i64 0)],B,recRow Tryz.prog GLx .ready e0 [14] (lG 39 0) (lG 39 1000)] (ns.all formedF)
   (if ns.all formedF then [A,.cells [.v (.int .i64 0)],B,recRow Tryz.prog GLx .ready e0 [14] (lG 39 0) (lG 39 1000)] else [A,.cells [.v (.int .i64 1)],B,recRow Tryz.prog GLx (.done none) e0 [14] (lG 39 0) (lG 39 1000)]):=by
 intro ns;induction ns with
 |nil=>intro _;exact⟨rfl,rfl⟩
 |cons n ns ih=>
  intro hk;have hy:=y66 A B e0 he n (hk n (by simp));refine⟨formedF n,_,?_,hy,?_⟩
  ·split<;>rfl
  ·cases hf:formedF n with
   |true=>
    simp only[if_true,List.all_cons,hf,Bool.true_and];exact ih λg hg=>hk g (by simp[hg])
   |false=>simp[hf]
theorem p66 (f:F) (hok:f.ok):PSp Tryz.prog GLx 39 [f.V] [.int .i64 (formE f)]:=by
 refine psp_of_awp (Zkk 39) rfl ?_;obtain⟨R,hR⟩:∃R,formE f=R:=⟨_,rfl⟩;rw[hR];unfold formE at hR;have h1:=(p142 f hok).fsp;have h2:=(p143 f hok).fsp;have h68:=p68 f;have hr:=l66 (.cells f.cells) (.cells f.cells) (cpE [(2,.ref 1 0),(13,.func 72 [.ref 2 0])]) rfl f.nodes hok.1;obtain⟨J,hp⟩:=p147 f hok 3 2 _ _ _ hr rfl;generalize f.nodes.all formedF=al at*;generalize f.size=sz at*;generalize f.depth=dp at*;obtain⟨op,n,ins,kids⟩:=f;simp only[F.cells,F.op,F.n,F.ins,F.kids,F.V_eq]at*;simp only[Zga 39,awp_seq,awp_reg,awp_block,awp_cond,Zge 39 0,Zge 39 1,entry];simp at h1 h2 h68;simp;refine⟨_,_,h1 _,?_⟩;by_cases b1:96 <sz
 ·have b1':96 <(sz:Int):=by omega
  simp[b1]at hR;simp[b1',awp_ret,Zge 39 2,Zgr 39,putL,hR]
 ·have b1':¬96 <(sz:Int):=by omega
  simp[b1'];refine⟨_,_,h2 _,?_⟩;by_cases b2:8 <dp
  ·have b2':8 <(dp:Int):=by omega
   simp[b2]at hR;simp[b2',awp_ret,Zge 39 2,Zgr 39,putL,hR]
  ·have b2':¬8 <(dp:Int):=by omega
   simp[b1,b2]at hR;simp[b2',awp_skip,Zge 39 3];refine⟨_,_,h68 _,?_⟩;simp;cases al with
   |true=>
    simp at hR;refine awp_range_of 72 [.ref 2 0] [] _ _ .ready rfl rfl hp rfl ?_;simp[rangeEnd,awp_ret,Zge 39 7,Zgr 39,putL,hR]
   |false=>
    simp at hR;refine awp_range_of 72 [.ref 2 0] [] _ _ (.done none) rfl rfl hp rfl ?_;simp[rangeEnd,Zgr 39,hR]
def b01 (b:Bool):Int:=if b then 1 else 0
def encIvl (x:Ivl):List Int:=encInts [x.ln,x.ld,x.hn,x.hd,b01 x.lo,b01 x.ho,b01 x.li,b01 x.hi]
def encNode (f:F):List Int:=encI f.op++(encI f.n++(encI f.ins.length++(f.ins.flatMap encIvl++encI f.kids.length)))
def encF (f:F):List Int:=f.nodes.flatMap encNode
theorem b01_i64 (b:Bool):i64 (b01 b):=by cases b<;>(unfold i64 b01;simp)
theorem flat_len_mem {α:Type} {l:List α} {f:α→List Int} {x:α} (h:x∈l):(f x).length≤(l.flatMap f).length:=by
 induction l with
 |nil=>cases h
 |cons y l ih=>
  rw[List.flatMap_cons,List.length_append];cases h with
  |head=>omega
  |tail _ h=>have:=ih h;omega
def lastOf (l:List Int) (k:Nat):Int:=match k with|0=> -1|j+1=>l.getD j 0
def badRef (l:List Int) (i:Int) (k:Nat):Bool:=decide (l.getD k 0≤lastOf l k∨i≤l.getD k 0)
def refsOK (l:List Int) (i:Int):Bool:= !(List.range l.length).any (badRef l i)
theorem p241 (l:List Int) (i:Int) (hn:l.length≤2^40):PSp Tryz.prog GLx 116 [nums .i64 l,.int .i64 i] [.bool (refsOK l i)]:=by
 refine psp_of_awp (Zkk 116) rfl ?_;simp only[Zga 116,awp_seq,awp_reg,awp_block,Zge 116 0,Zge 116 1,Zge 116 2,entry];simp[nums];refine awp_loop_inv l.length (λk=>⟨[(1,.v (.int .i64 i)),(5,.v (.int .i64 (lastOf l k))),(8,.v (nums .i64 l)),(9,.v (.int .i64 l.length)),(10,.v (.int .i64 k))],[]⟩) (λk=>∀j <k,badRef l i j=false) (by simp[nums,lastOf]) (by omega) ?_;intro k hk hI;simp only[Zgl 116 0,awp_seq,awp_reg,awp_block,awp_cond,Zge 116 3];simp[nums];by_cases h1:k <l.length
 ·obtain⟨x,hx⟩:∃x,l[k]?=some x:=⟨_,List.getElem?_eq_getElem h1⟩;have hw:IntKind.i64.wrap ((k:Int)+1)=k+1:=wrap_i64 (by omega) (by omega);have hb:badRef l i k=decide (x≤lastOf l k∨i≤x):=by unfold badRef;simp[List.getD,hx]
  have hlast:lastOf l (k+1)=x:=by simp[lastOf,List.getD,hx]
  rw[if_pos (by omega),awp_skip];simp only[Zge 116 4,Zge 116 5];simp[hx];by_cases b1:x≤lastOf l k
  ·have hbt:badRef l i k=true:=by rw[hb];simp[b1]
   simp[b1,awp_ret,Zge 116 6,Zgr 116];unfold refsOK;rw[any_bad h1 hbt];rfl
  ·by_cases b2:i≤x
   ·have hbt:badRef l i k=true:=by rw[hb];simp[b2]
    simp[b1,b2,awp_ret,Zge 116 6,Zgr 116];unfold refsOK;rw[any_bad h1 hbt];rfl
   ·have hbf:badRef l i k=false:=by rw[hb];simp;omega
    simp[b1,b2,awp_skip,Zge 116 7,Zge 116 8,hw,h1,hlast];intro j hj;rcases Nat.lt_or_ge j k with h|h
    ·exact hI j h
    ·have:j=k:=by omega
     subst this;exact hbf
 ·have hk2:k=l.length:=by omega
  subst hk2;rw[if_neg (by omega),awp_exit];simp[awp_ret,Zge 116 9,Zgr 116];unfold refsOK;rw[any_good hI];rfl
theorem p213 (l:List Int) (i:Int) (hn:l.length≤2^40):PSp Tryz.prog GLx 134 [nums .i64 l,.int .i64 i] [.bool (refsOK l i)]:=by
 refine psp_of_awp (Zkk 134) rfl ?_;simp only[Zga 134,awp_seq,awp_reg,awp_block,Zge 134 0,Zge 134 1,entry];simp[nums];refine awp_loop_inv l.length (λk=>⟨[(0,.v (nums .i64 l)),(1,.v (.int .i64 i)),(5,.v (.int .i64 k))],[]⟩) (λk=>∀j <k,badRef l i j=false) (by simp[nums]) (by omega) ?_;intro k hk hI;have hge: -1≤lastOf l k:=by
  have:∀k,(∀j <k,badRef l i j=false)→ -1≤lastOf l k:=by
   intro k;induction k with
   |zero=>intro _;simp[lastOf]
   |succ j ih=>
    intro h;have h1:=ih λj' h'=>h j' (by omega);have h2:=h j (by omega);unfold badRef at h2;simp at h2;have e:lastOf l (j+1)=l.getD j 0:=rfl;rw[e];simp only[List.getD_eq_getElem?_getD]at *;omega
  exact this k hI
 simp only[Zgl 134 0,awp_seq,awp_reg,awp_regD,awp_block,awp_cond,Zge 134 2];simp[nums];by_cases h1:k <l.length
 ·obtain⟨x,hx⟩:∃x,l[k]?=some x:=⟨_,List.getElem?_eq_getElem h1⟩;have hw:IntKind.i64.wrap ((k:Int)+1)=k+1:=wrap_i64 (by omega) (by omega);have hb:badRef l i k=decide (x≤lastOf l k∨i≤x):=by unfold badRef;simp[List.getD,hx]
  have hbad:badRef l i k=true→refsOK l i=false:=by intro h;unfold refsOK;rw[any_bad h1 h];rfl
  have hgood:badRef l i k=false→∀j <k+1,badRef l i j=false:=by
   intro hbf j hj;rcases Nat.lt_or_ge j k with h|h
   ·exact hI j h
   ·have:j=k:=by omega
    subst this;exact hbf
  rw[if_pos (by omega),awp_skip];simp only[Zge 134 4];by_cases b1:x <0
  ·have hbt:badRef l i k=true:=by rw[hb];simp;omega
   simp[hx,b1,awp_ret,Zge 134 5,Zgr 134,hbad hbt]
  ·by_cases b2:i≤x
   ·have hbt:badRef l i k=true:=by rw[hb];simp[b2]
    simp[hx,b1,b2,awp_ret,Zge 134 5,Zgr 134,hbad hbt]
   ·cases k with
    |zero=>
     have hbf:badRef l i 0=false:=by
      have e:lastOf l 0= -1:=rfl;rw[hb,e];simp;omega
     have hx2:l[0]=x:=(List.getElem?_eq_some_iff.1 hx).2;simp at hw;simp[hx2,b1,b2,awp_skip,Zge 134 3,hw,h1];exact hbf
    |succ j=>
     obtain⟨y,hy⟩:∃y,l[j]?=some y:=⟨_,List.getElem?_eq_getElem (by omega)⟩;have hw2:IntKind.i64.wrap (j:Int)=j:=wrap_i64 (by omega) (by omega);have hl:lastOf l (j+1)=y:=by simp[lastOf,List.getD,hy]
     have hx2:l[j+1]=x:=(List.getElem?_eq_some_iff.1 hx).2;have h9:(0:Int) <(j:Int)+1:=by omega
     have h10:(0:Int)≤(j:Int)+1:=by omega
     by_cases b3:x≤y
     ·have hbt:badRef l i (j+1)=true:=by rw[hb,hl];simp[b3]
      simp[b1,b2,h9,h10,hw2,hx,hy,b3,awp_ret,Zge 134 5,Zgr 134,hbad hbt]
     ·have hbf:badRef l i (j+1)=false:=by rw[hb,hl];simp;omega
      simp at hw;simp[b1,b2,h9,h10,hw2,hx2,hy,b3,awp_skip,Zge 134 3,hw,h1];exact hgood hbf
 ·have hk2:k=l.length:=by omega
  subst hk2;rw[if_neg (by omega),awp_exit];simp[awp_ret,Zge 134 6,Zgr 134];unfold refsOK;rw[any_good hI];rfl
structure Clm where
 refs:List Int
 body:F
def Clm.V (c:Clm):V:= .agg [nums .i64 c.refs,.int .i64 c.body.op,.int .i64 c.body.n,.list (c.body.ins.map Ivl.V),.list (c.body.kids.map F.V)]
def Clm.ok (c:Clm):Prop:=(∀n∈c.refs,i64 n)∧c.refs.length≤2^40∧c.body.ok
theorem F.V_flds (f:F):f.V= .agg [.int .i64 f.op,.int .i64 f.n,.list (f.ins.map Ivl.V),.list (f.kids.map F.V)]:=by cases f;rw[F.V_eq];rfl
def firstE (e:Nat→Int):Nat→Nat→Int
 |_,0=>0
 |k,m+1=>if e k≠0 then e k else firstE e (k+1) m
theorem firstE_zero {e:Nat→Int}:∀(m k:Nat),(∀j,k≤j→j <k+m→e j=0)→firstE e k m=0
 |0,_,_=>rfl
 |m+1,k,h=>by
  simp only[firstE,h k (by omega) (by omega)];simpa using firstE_zero m (k+1) λj h1 h2=>h j (by omega) (by omega)
theorem firstE_at {e:Nat→Int}:∀(m k i:Nat),k≤i→i <k+m→(∀j,k≤j→j <i→e j=0)→e i≠0→firstE e k m=e i
 |0,k,i,h1,h2,_,_=>by omega
 |m+1,k,i,h1,h2,h,hi=>by
  by_cases hk:k=i
  ·subst hk;simp only[firstE,if_pos hi]
  ·simp only[firstE,h k (by omega) (by omega)];simpa using firstE_at m (k+1) i (by omega) (by omega) (λj h3 h4=>h j (by omega) h4) hi
def clmE (c:Clm) (k:Nat):Int:=if c.refs.length>8 then 4 else if refsOK c.refs k then formE c.body else 1
def clmAt (l:List Clm) (k:Nat):Int:=match l[k]? with|none=>0|some c=>clmE c k
def clmsE (l:List Clm):Int:=if l.length>32 then 4 else firstE (clmAt l) 0 l.length
theorem p138 (l:List Clm) (hl:∀c∈l,c.ok) (hn:l.length≤2^40):PSp Tryz.prog GLx 65 [.list (l.map Clm.V)] [.int .i64 (clmsE l)]:=by
 refine psp_of_awp (Zkk 65) rfl ?_;obtain⟨R,hR⟩:∃R,clmsE l=R:=⟨_,rfl⟩;rw[hR];unfold clmsE at hR;simp only[Zga 65,awp_seq,awp_reg,awp_block,awp_cond,Zge 65 0,Zge 65 1,entry];simp;by_cases h32:32 <l.length
 ·have h32':32 <(l.length:Int):=by omega
  simp[h32]at hR;simp[h32',awp_ret,Zge 65 2,Zgr 65,hR]
 ·have h32':¬32 <(l.length:Int):=by omega
  simp only[gt_iff_lt,h32,if_false]at hR;simp[h32',awp_skip,Zge 65 3];refine awp_loop_I l.length (λk s=>s.e=[(9,.v (.list (l.map Clm.V))),(10,.v (.int .i64 l.length)),(11,.v (.int .i64 k))]∧∀j <k,clmAt l j=0) ⟨rfl,by omega⟩ ?_;rintro k ⟨se,sh⟩ hk ⟨he,hI⟩;simp only at he;subst he;simp only[Zgl 65 0,awp_seq,awp_reg,awp_block,awp_cond,Zge 65 4];simp;by_cases h1:k <l.length
  ·obtain⟨x,hx⟩:∃x,l[k]?=some x:=⟨_,List.getElem?_eq_getElem h1⟩;obtain⟨o1,o2,o3⟩:=hl x (List.mem_of_getElem? hx);have hw:IntKind.i64.wrap ((k:Int)+1)=k+1:=wrap_i64 (by omega) (by omega);have hat:clmAt l k=clmE x k:=by unfold clmAt;rw[hx]
   have hbad:clmE x k≠0→R=clmE x k:=λh=>by rw[←hR,firstE_at l.length 0 k (by omega) (by omega) (λj _ h3=>hI j h3) (by rw[hat];exact h),hat]
   have p1:=(p241 x.refs k o2).fsp;have p2:=(p66 x.body o3).fsp;rw[F.V_flds]at p2;unfold clmE at hbad hat;rw[if_pos (by omega),awp_skip];simp only[Zge 65 5,Zge 65 6];simp[hx,Clm.V,nums,putL];simp[nums]at p1 p2;by_cases b1:8 <x.refs.length
   ·have b1':8 <(x.refs.length:Int):=by omega
    simp[b1]at hbad;simp[b1',awp_ret,Zge 65 7,Zgr 65,hbad]
   ·have b1':¬8 <(x.refs.length:Int):=by omega
    simp only[gt_iff_lt,b1,if_false]at hbad hat;simp[b1',Zge 65 8];refine⟨_,_,p1 _,?_⟩;cases hr:refsOK x.refs k with
    |false=>
     simp[hr]at hbad;simp[awp_ret,Zge 65 9,Zgr 65,hbad]
    |true=>
     simp[hr]at hbad hat;simp[awp_skip,Zge 65 10];refine⟨_,_,p2 _,?_⟩;by_cases b2:formE x.body=0
     ·rw[b2]at hat;simp[b2,Zge 65 11,Zge 65 13,hw,h1];intro j hj;rcases Nat.lt_or_ge j k with h|h
      ·exact hI j h
      ·have:j=k:=by omega
       subst this;exact hat
     ·simp[b2,Zge 65 11,awp_ret,Zge 65 12,Zgr 65,hbad b2]
  ·have hk2:k=l.length:=by omega
   subst hk2;rw[if_neg (by omega),awp_exit];rw[firstE_zero _ _ (λj _ h3=>hI j (by omega))]at hR;simp[awp_ret,Zge 65 14,Zgr 65,hR]
theorem p126 (l:List Clm) (hl:∀c∈l,c.ok) (hn:l.length≤2^40):PSp Tryz.prog GLx 96 [.list (l.map Clm.V)] [.int .i64 (clmsE l)]:=by
 refine psp_of_awp (Zkk 96) rfl ?_;obtain⟨R,hR⟩:∃R,clmsE l=R:=⟨_,rfl⟩;rw[hR];unfold clmsE at hR;simp only[Zga 96,awp_seq,awp_reg,awp_block,awp_cond,Zge 96 0,Zge 96 1,entry];simp;by_cases h32:32 <l.length
 ·have h32':32 <(l.length:Int):=by omega
  simp[h32]at hR;simp[h32',awp_ret,Zge 96 2,Zgr 96,hR]
 ·have h32':¬32 <(l.length:Int):=by omega
  simp only[gt_iff_lt,h32,if_false]at hR;simp[h32',awp_skip,Zge 96 3];refine awp_loop_inv l.length (λk=>⟨[(0,.v (.list (l.map Clm.V))),(3,.v (.int .i64 k))],[]⟩) (λk=>∀j <k,clmAt l j=0) rfl (by omega) ?_;intro k hk hI;simp only[Zgl 96 0,awp_seq,awp_reg,awp_block,awp_cond,Zge 96 4];simp;by_cases h1:k <l.length
  ·obtain⟨x,hx⟩:∃x,l[k]?=some x:=⟨_,List.getElem?_eq_getElem h1⟩;obtain⟨o1,o2,o3⟩:=hl x (List.mem_of_getElem? hx);have hw:IntKind.i64.wrap ((k:Int)+1)=k+1:=wrap_i64 (by omega) (by omega);have hat:clmAt l k=clmE x k:=by unfold clmAt;rw[hx]
   have hbad:clmE x k≠0→R=clmE x k:=λh=>by rw[←hR,firstE_at l.length 0 k (by omega) (by omega) (λj _ h3=>hI j h3) (by rw[hat];exact h),hat]
   have p1:=(p213 x.refs k o2).fsp;have p2:=(p214 x.body o3).fsp;rw[F.V_flds]at p2;unfold clmE at hbad hat;rw[if_pos (by omega),awp_skip];simp only[Zge 96 6];simp[hx,Clm.V,nums];simp[nums]at p1 p2;by_cases b1:8 <x.refs.length
   ·have b1':8 <(x.refs.length:Int):=by omega
    simp[b1]at hbad;simp[b1',awp_ret,Zge 96 7,Zgr 96,hbad]
   ·have b1':¬8 <(x.refs.length:Int):=by omega
    simp only[gt_iff_lt,b1,if_false]at hbad hat;simp[b1',hx,Clm.V,nums,awp_skip,Zge 96 8];refine⟨_,_,p1 _,?_⟩;cases hr:refsOK x.refs k with
    |false=>
     simp[hr]at hbad;simp[awp_ret,Zge 96 9,Zgr 96,hbad]
    |true=>
     simp[hr]at hbad hat;simp[hx,Clm.V,nums,Zge 96 10];refine⟨_,_,p2 _,?_⟩;by_cases b2:formE x.body=0
     ·rw[b2]at hat;simp[b2,Zge 96 11,Zge 96 5,hw,h1];intro j hj;rcases Nat.lt_or_ge j k with h|h
      ·exact hI j h
      ·have:j=k:=by omega
       subst this;exact hat
     ·simp[b2,Zge 96 11,awp_ret,Zge 96 12,Zgr 96,hbad b2]
  ·have hk2:k=l.length:=by omega
   subst hk2;rw[if_neg (by omega),awp_exit];rw[firstE_zero _ _ (λj _ h3=>hI j (by omega))]at hR;simp[awp_ret,Zge 96 13,Zgr 96,hR]
def encClm (c:Clm):List Int:=encInts c.refs++encRaw (encF c.body)
def encClms (l:List Clm):List Int:=encI l.length++l.flatMap encClm
structure Dat where
 cl:Int
 ix:Int
 day:Int
 file:Int
structure Own where
 party:Int
 num:Int
 den:Int
structure Lic where
 fr:Int
 to:Int
 fst:Int
 lst:Int
structure Rgt where
 file:Int
 state:Int
 force:Int
 claims:List Clm
 dates:List Dat
 bad:List Int
 owners:List Own
 lics:List Lic
def Dat.V (d:Dat):V:= .agg [.int .i64 d.cl,.int .i64 d.ix,.int .i64 d.day,.int .i64 d.file]
def Own.V (o:Own):V:= .agg [.int .i64 o.party,.int .i64 o.num,.int .i64 o.den]
def Lic.V (h:Lic):V:= .agg [.int .i64 h.fr,.int .i64 h.to,.int .i64 h.fst,.int .i64 h.lst]
def Rgt.cs (r:Rgt):List V:=[.int .i64 r.file,.int .i64 r.state,.int .i64 r.force,.list (r.claims.map Clm.V),.list (r.dates.map Dat.V),nums .i64 r.bad,.list (r.owners.map Own.V),.list (r.lics.map Lic.V)]
def Rgt.V (r:Rgt):V:= .agg r.cs
def Dat.ok (d:Dat):Prop:=i64 d.cl∧i64 d.ix∧i64 d.day∧i64 d.file
def Own.ok (o:Own):Prop:=i64 o.party∧i64 o.num∧i64 o.den
def Lic.ok (h:Lic):Prop:=i64 h.fr∧i64 h.to∧i64 h.fst∧i64 h.lst
structure Rgt.ok (r:Rgt):Prop where
 file:i64 r.file
 state:i64 r.state
 force:i64 r.force
 claims:∀c∈r.claims,c.ok
 dates:∀d∈r.dates,d.ok
 bad:∀n∈r.bad,i64 n
 owners:∀o∈r.owners,o.ok
 lics:∀h∈r.lics,h.ok
 lc:r.claims.length≤2^30
 ld:r.dates.length≤2^30
 lb:r.bad.length≤2^30
 lo:r.owners.length≤2^30
 ll:r.lics.length≤2^30
 enc:(encClms r.claims).length≤2^39
def encDat (d:Dat):List Int:=encI d.cl++encI d.ix++encI d.day++encI d.file
def encOwn (o:Own):List Int:=encI o.party++encI o.num++encI o.den
def encLic (h:Lic):List Int:=encI h.fr++encI h.to++encI h.fst++encI h.lst
def encR (r:Rgt):List Int:=
 encI r.file++encI r.state++encI r.force++encRaw (encClms r.claims)++encI r.dates.length++r.dates.flatMap encDat++encInts r.bad++
 encI r.owners.length++r.owners.flatMap encOwn++encI r.lics.length++r.lics.flatMap encLic
def Low (h:List Row):Prop:=∀row∈h,Row.low h.length row=true
theorem Low.app {h:List Row} (hl:Low h) {row:Row} (hr:Row.low (h.length+1) row=true):Low (h++[row]):=by
 intro x hx;rw[List.length_append];rcases List.mem_append.1 hx with hx|hx
 ·have h1:=hl _ hx;cases x with
  |cells ds=>
   refine lts_all λd hd=>?_;obtain⟨i,hi⟩:=List.getElem?_of_mem hd;exact dlt_mono (by simp) d (lts_get h1 hi)
  |_=>exact h1
 ·simp at hx;subst hx;exact hr
theorem IdxR.map {P:Program} {GL:Globals} {fid:Nat} {caps:List D} {α:Type} {f:α→V} {p:α→Bool} {l:List α} {h:List Row} (hp:∀x∈l,FSp P GL fid (.v (f x)::caps) h [.v (.bool (p x))] h):
  IdxR P GL fid caps (l.map f) h (l.findIdx? p) h:=by
 induction l with
 |nil=>exact⟨rfl,rfl⟩
 |cons x xs ih=>
  refine⟨p x,h,hp x (by simp),?_⟩;cases hx:p x with
  |true=>simp[List.findIdx?_cons,hx]
  |false=>
   simp only[Bool.false_eq_true,if_false];exact⟨_,ih λy hy=>hp y (by simp[hy]),by simp[List.findIdx?_cons,hx]⟩
theorem all_idx {α:Type} (p:α→Bool) (l:List α):(l.findIdx? λx=> !p x).isSome= !l.all p:=by
 rw[findIdx_any,List.not_all_eq_any_not]
structure Val where
 a:Int
 n:Int
 d:Int
def Val.V (x:Val):V:= .agg [.int .i64 x.a,.int .i64 x.n,.int .i64 x.d]
inductive Th where
 |mk (cs:List Int) (vs:List Val) (ps:List Th)
def Th.cs:Th→List Int| .mk c _ _=>c
def Th.vs:Th→List Val| .mk _ v _=>v
def Th.ps:Th→List Th| .mk _ _ p=>p
theorem Th.ind {p:Th→Prop} (h:∀cs vs ps,(∀k∈ps,p k)→p (.mk cs vs ps)) (f:Th):p f:=
 Th.rec (motive_1:=p) (motive_2:=λl=>∀k∈l,p k) (λcs vs ps ih=>h cs vs ps ih) (λk hk=>by cases hk)
  (λx xs hx hxs k hk=>by cases hk with|head=>exact hx|tail _ hk=>exact hxs k hk) f
mutual
def Th.V:Th→V| .mk cs vs ps=> .agg [nums .i64 cs,.list (vs.map Val.V),.list (Th.Vs ps)]
def Th.Vs:List Th→List V|[]=>[]|k::ks=>k.V::Th.Vs ks
end
theorem Th.Vs_map:∀l,Th.Vs l=l.map Th.V
 |[]=>rfl
 |k::ks=>by simp[Th.Vs,Th.Vs_map ks]
theorem Th.V_eq (cs:List Int) (vs:List Val) (ps:List Th):(Th.mk cs vs ps).V= .agg [nums .i64 cs,.list (vs.map Val.V),.list (ps.map Th.V)]:=by
 simp[Th.V,Th.Vs_map]
theorem Th.V3 (t:Th):∃cs,t.V= .agg cs∧cs.length=3:=by
 cases t;exact⟨_,Th.V_eq _ _ _,rfl⟩
def Val.ok (x:Val):Prop:=i64 x.a∧i64 x.n∧i64 x.d
inductive Th.ok:Th→Prop
 |mk {cs vs ps} (h1:cs.length≤2^30) (h2:vs.length≤2^30) (h3:ps.length≤2^30) (h4:∀x∈vs,Val.ok x) (h5:∀p∈ps,Th.ok p):Th.ok (.mk cs vs ps)
mutual
def Th.nd:Th→Int→Int→Int| .mk _ _ ps,lv,lf=>if 8 <lv∨lf <1 then -1 else Th.nds ps (lv+1) (lf-1)
def Th.nds:List Th→Int→Int→Int|[],_,lf=>lf|k::ks,lv,lf=>if k.nd lv lf <0 then -1 else Th.nds ks lv (k.nd lv lf)
end
theorem nds_le:∀(t:Th) (lv lf:Int),0≤lf→t.nd lv lf≤lf:=by
 refine Th.ind λcs vs ps ih=>?_;intro lv lf h0;rw[Th.nd];split
 ·omega
 ·have:∀(l:List Th),(∀x∈l,∀(lv lf:Int),0≤lf→x.nd lv lf≤lf)→∀lv lf:Int,0≤lf→Th.nds l lv lf≤lf:=by
   intro l;induction l with
   |nil=>intro _ lv lf _;simp[Th.nds]
   |cons x xs ihx=>
    intro h lv lf h1;rw[Th.nds];split
    ·omega
    ·have a1:=h x (by simp) lv lf h1;have a2:=ihx (λy hy=>h y (by simp[hy])) lv (x.nd lv lf) (by omega);omega
  have:=this ps ih (lv+1) (lf-1) (by omega);omega
theorem drop_cons_get {α:Type} {l:List α} {k:Nat} {x:α} (h:l[k]?=some x):l.drop k=x::l.drop (k+1):=by
 obtain⟨h1,h2⟩:=List.getElem?_eq_some_iff.1 h;rw[List.drop_eq_getElem_cons h1,h2]
theorem l247 (lv:Int) (h1:0≤lv∧lv≤8) (all:List Th) (hn:all.length≤2^30) (Q:AExit→St→Prop)
  (ih:∀p∈all,∀(lf:Int),0≤lf→lf≤2^40→PSp Tryz.prog GLx 91 [p.V,.int .i64 (lv+1),.int .i64 lf] [.int .i64 (p.nd (lv+1) lf)]) (lf:Int) (J:List Row) (h2:0≤lf) (h3:lf≤2^40) (R:Int) (hR:Th.nds all (lv+1) lf=R)
  (hr:∀e h,R= -1→find e 6= .v (.int .i64 (-1))→Q .ret ⟨e,h⟩) (hs:∀e h,find e 2= .v (.int .i64 R)→Q (.exit 0) ⟨e,h⟩):
  awp Tryz.prog GLx (.loop (lG 91 0)) Q ⟨[(1,.v (.int .i64 lv)),(2,.v (.int .i64 lf)),(18,.v (.list (all.map Th.V))),(19,.v (.int .i64 all.length)),(20,.v (.int .i64 (0:Nat)))],J⟩:=by
 refine awp_loop_I all.length (λk s=>∃lf J,s=⟨[(1,.v (.int .i64 lv)),(2,.v (.int .i64 lf)),(18,.v (.list (all.map Th.V))),(19,.v (.int .i64 all.length)),(20,.v (.int .i64 k))],J⟩∧0≤lf∧lf≤2^40∧Th.nds (all.drop k) (lv+1) lf=R)
  ⟨lf,J,rfl,h2,h3,hR⟩ ?_
 rintro k s hk ⟨lf,J,rfl,h2,h3,hR⟩;simp only[Zgl 91 0,awp_seq,awp_reg,awp_block,awp_cond,Zge 91 5];simp;by_cases hkl:k <all.length
 ·obtain⟨x,hx⟩:∃x,all[k]?=some x:=⟨_,List.getElem?_eq_getElem hkl⟩;have hw:IntKind.i64.wrap ((k:Int)+1)=k+1:=wrap_i64 (by omega) (by omega);have hw2:IntKind.i64.wrap (lv+1)=lv+1:=wrap_i64 (by omega) (by omega);have hp:=(ih x (List.mem_of_getElem? hx) lf h2 h3).fsp;have hle:=nds_le x (lv+1) lf h2;rw[drop_cons_get hx,Th.nds]at hR;generalize x.nd (lv+1) lf=N at*;obtain⟨cs,vs,ps⟩:=x;simp[Th.V_eq,nums]at hp;rw[if_pos (by omega),awp_skip];simp only[Zge 91 6,Zge 91 7];simp[hx,Th.V_eq,hw2,nums,putL];refine⟨_,_,hp _,?_⟩;by_cases hN:N <0
  ·simp[Zge 91 8,hN,Zge 91 9,awp_ret];rw[if_pos hN]at hR;exact hr _ _ hR.symm rfl
  ·rw[if_neg hN]at hR;simp[Zge 91 8,hN,Zge 91 10,awp_skip,hw,hkl,hR];omega
 ·have hk2:k=all.length:=by omega
  subst hk2;rw[if_neg (by omega),awp_exit];refine hs _ _ ?_;simp[Th.nds]at hR;simp[hR]
theorem p247:∀(t:Th) (lv lf:Int),t.ok→0≤lv→lv≤2^40→0≤lf→lf≤2^40→PSp Tryz.prog GLx 91 [t.V,.int .i64 lv,.int .i64 lf] [.int .i64 (t.nd lv lf)]:=by
 refine Th.ind λcs vs ps ih lv lf hok a1 a2 a3 a4=>?_;obtain⟨ok1,ok2,ok3,ok4,ok5⟩:=hok;refine psp_of_awp (Zkk 91) rfl ?_;rw[Th.nd];simp only[Zga 91,awp_seq,awp_reg,awp_block,awp_cond,Zge 91 0,Zge 91 1,entry];simp[Th.V_eq];by_cases b1:8 <lv
 ·simp[b1,Zge 91 2,awp_ret,Zgr 91]
 ·by_cases b2:lf <1
  ·simp[b1,b2,Zge 91 2,awp_ret,Zgr 91]
  ·have hw:IntKind.i64.wrap (lf-1)=lf-1:=wrap_i64 (by omega) (by omega);simp[b1,b2,awp_skip,Zge 91 3,Zge 91 4,hw];refine l247 lv ⟨a1,by omega⟩ ps ok3 _ (λp hp lf h h'=>ih p hp (lv+1) lf (ok5 p hp) (by omega) (by omega) h h') (lf-1) _ (by omega) (by omega) _ rfl ?_ ?_
   ·intro e h hR h6;simp[h6,hR,Zgr 91]
   ·intro e h h2;simp[Zge 91 11,h2,awp_ret,Zgr 91]
def limT (t:Th):Bool:=decide (0≤t.nd 1 96)
theorem p145 (t:Th) (h:t.ok):PSp Tryz.prog GLx 50 [t.V] [.bool (limT t)]:=by
 refine psp_of_awp (Zkk 50) rfl ?_;have hp:=(p247 t 1 96 h (by decide) (by decide) (by decide) (by decide)).fsp;unfold limT;generalize t.nd 1 96=N at*;obtain⟨cs,vs,ps⟩:=t;simp only[Zga 50,awp_seq,awp_reg,Zge 50 0,Zge 50 1,entry];simp[Th.V_eq,nums]at hp ⊢;refine⟨_,_,hp _,?_⟩;simp[awp_ret,Zgr 50]
def badC (l:List Int) (m:Int) (k:Nat):Bool:=decide (l.getD k 0 <0∨m≤l.getD k 0∨(0 <k∧l.getD k 0≤l.getD (k-1) 0))
def incC (l:List Int) (m:Int):Bool:= !(List.range l.length).any (badC l m)
theorem p250 (l:List Int) (m:Int) (hn:l.length≤2^40):PSp Tryz.prog GLx 94 [nums .i64 l,.int .i64 m] [.bool (incC l m)]:=by
 refine psp_of_awp (Zkk 94) rfl ?_;simp only[Zga 94,awp_seq,awp_reg,awp_block,Zge 94 0,Zge 94 1,entry];simp[nums];refine awp_loop_inv l.length (λk=>⟨[(0,.v (nums .i64 l)),(1,.v (.int .i64 m)),(7,.v (nums .i64 l)),(8,.v (.int .i64 l.length)),(9,.v (.int .i64 k))],[]⟩) (λk=>∀j <k,badC l m j=false) (by simp[nums]) (by omega) ?_;intro k hk hI;simp only[Zgl 94 0,awp_seq,awp_reg,awp_block,awp_cond,Zge 94 2];simp[nums];by_cases h1:k <l.length
 ·obtain⟨x,hx⟩:∃x,l[k]?=some x:=⟨_,List.getElem?_eq_getElem h1⟩;have hw:IntKind.i64.wrap ((k:Int)+1)=k+1:=wrap_i64 (by omega) (by omega);have hb:badC l m k=true↔(x <0∨m≤x∨(0 <k∧x≤l.getD (k-1) 0)):=by unfold badC;rw[decide_eq_true_iff];simp[List.getD,hx]
  have hf:¬(x <0∨m≤x∨(0 <k∧x≤l.getD (k-1) 0))→badC l m k=false:=λh=>by
   cases h':badC l m k with
   |true=>exact absurd (hb.1 h') h
   |false=>rfl
  have ret:badC l m k=true→incC l m=false:=λh=>by unfold incC;rw[any_bad h1 h];rfl
  have go:badC l m k=false→∀j <k+1,badC l m j=false:=λh j hj=>by
   rcases Nat.lt_or_ge j k with h'|h'
   ·exact hI j h'
   ·have:j=k:=by omega
    subst this;exact h
  rw[if_pos (by omega),awp_skip];simp only[Zge 94 3,Zge 94 4];simp[hx];by_cases b1:x <0
  ·have hbt:badC l m k=true:=hb.2 (.inl b1);simp[b1,awp_ret,Zge 94 5,Zgr 94,ret hbt]
  ·by_cases b2:m≤x
   ·have hbt:badC l m k=true:=hb.2 (.inr (.inl b2));simp[b1,b2,awp_ret,Zge 94 5,Zgr 94,ret hbt]
   ·cases k with
    |zero=>
     have hbf:badC l m 0=false:=hf (by omega);have hw1:IntKind.i64.wrap 1=1:=rfl;simp[hw1,b1,b2,awp_skip,Zge 94 6,h1,go hbf]
    |succ j=>
     have hw3:IntKind.i64.wrap (j:Int)=j:=wrap_i64 (by omega) (by omega);have hpos:(0:Int) <(j:Int)+1:=by omega
     obtain⟨y,hy⟩:∃y,l[j]?=some y:=⟨_,List.getElem?_eq_getElem (by omega)⟩;simp only[Int.natCast_add,Int.cast_ofNat_Int]at hw;by_cases b3:x≤y
     ·have hbt:badC l m (j+1)=true:=hb.2 (.inr (.inr ⟨by omega,by simp[List.getD,hy,b3]⟩));simp[b1,b2,b3,hw3,hy,awp_ret,Zge 94 5,Zgr 94,ret hbt]
     ·have hbf:badC l m (j+1)=false:=hf (by simp[List.getD,hy];omega);simp[b1,b2,b3,hw3,hy,awp_skip,Zge 94 6,hw,h1];exact go hbf
 ·have hk2:k=l.length:=by omega
  subst hk2;rw[if_neg (by omega),awp_exit];simp[awp_ret,Zge 94 7,Zgr 94];unfold incC;rw[any_good hI];rfl
def valOK (x:Val):Bool:=okR x.n x.d&&decide (x.d≤65536)
mutual
def Th.formed:Th→Bool| .mk cs vs ps=>vs.all valOK&&(incC cs 64&&(incC (vs.map Val.a) 32&&Th.formeds ps))
def Th.formeds:List Th→Bool|[]=>true|k::ks=>k.formed&&Th.formeds ks
end
theorem formeds_all:∀l,Th.formeds l=l.all Th.formed
 |[]=>rfl
 |k::ks=>by simp[Th.formeds,formeds_all ks]
theorem p249 (t:Th) (h:PSp Tryz.prog GLx 51 [t.V] [.bool t.formed]):PSp Tryz.prog GLx 93 [t.V] [.bool (!t.formed)]:=by
 refine psp_of_awp (Zkk 93) rfl ?_;have hp:=h.fsp;generalize t.formed=R at*;obtain⟨cs,vs,ps⟩:=t;simp only[Zga 93,awp_seq,awp_reg,Zge 93 0,Zge 93 1,entry];simp[Th.V_eq,nums]at hp ⊢;refine⟨_,_,hp _,?_⟩;simp[awp_ret,Zgr 93]
set_option maxRecDepth 100000 in
theorem l146 (cs:List Int) (vs:List Val) (ps:List Th) (hn:vs.length≤2^30) (hv:∀x∈vs,Val.ok x) (Q:AExit→St→Prop)
  (hr:∀e h,vs.all valOK=false→find e 2= .v (.bool false)→Q .ret ⟨e,h⟩)
  (hs:∀J,vs.all valOK=true→Q (.exit 0) ⟨[(1,.ref 0 0),(3,.own 3 1 ((vs.map Val.a).map (.int .i64))),(8,.v (.list (vs.map Val.V))),(9,.v (.int .i64 vs.length)),(10,.v (.int .i64 vs.length)),(11,.v (.bool false))],
   .cells [.v (nums .i64 cs),.v (.list (vs.map Val.V)),.v (.list (ps.map Th.V))]::J⟩):
  awp Tryz.prog GLx (.loop (lG 51 0)) Q ⟨[(1,.ref 0 0),(3,.own 3 1 []),(8,.v (.list (vs.map Val.V))),(9,.v (.int .i64 vs.length)),(10,.v (.int .i64 (0:Nat)))],
   [.cells [.v (nums .i64 cs),.v (.list (vs.map Val.V)),.v (.list (ps.map Th.V))]]⟩:=by
 refine awp_loop_I vs.length (λk s=>∃J,s=⟨[(1,.ref 0 0),(3,.own 3 1 (((vs.take k).map Val.a).map (.int .i64))),(8,.v (.list (vs.map Val.V))),(9,.v (.int .i64 vs.length)),(10,.v (.int .i64 k))],
   .cells [.v (nums .i64 cs),.v (.list (vs.map Val.V)),.v (.list (ps.map Th.V))]::J⟩∧(vs.take k).all valOK=true) ⟨[],by simp,rfl⟩ ?_
 rintro k s hk ⟨J,rfl,hI⟩;simp only[Zgl 51 0,awp_seq,awp_reg,awp_block,awp_cond,Zge 51 3];simp;by_cases hkl:k <vs.length
 ·obtain⟨x,hx⟩:∃x,vs[k]?=some x:=⟨_,List.getElem?_eq_getElem hkl⟩;have hxm:=List.mem_of_getElem? hx;have hw:IntKind.i64.wrap ((k:Int)+1)=k+1:=wrap_i64 (by omega) (by omega);have hok:=hv x hxm;have hp:=(p248 x.n x.d hok.2.1 hok.2.2).fsp;have hroom:roomy (k+1) 8=true:=by simp[roomy];omega
  have hm:min k vs.length=k:=by omega
  have ht:vs.take (k+1)=vs.take k++[x]:=by rw[List.take_add_one,hx];rfl
  have hall:(vs.take (k+1)).all valOK=valOK x:=by rw[ht,List.all_append,hI];simp
  have hbad:valOK x=false→vs.all valOK=false:=λh=>by
   cases h':vs.all valOK with
   |false=>rfl
   |true=>exact absurd ((List.all_eq_true.1 h' x hxm).symm.trans h) (by decide)
  have hv:valOK x=(okR x.n x.d&&decide (x.d≤65536)):=rfl;rw[if_pos (by omega),awp_skip];simp only[Zge 51 4];simp[hx,Val.V,putL];simp only[Zge 51 5,Zge 51 6];simp[hm,hroom];simp[ratV]at hp;cases h1:okR x.n x.d with
  |false=>
   simp[h1]at hp;refine⟨_,_,hp _,?_⟩;simp[Zge 51 7,awp_ret];exact hr _ _ (hbad (by rw[hv,h1];rfl)) rfl
  |true=>
   simp[h1]at hp;refine⟨_,_,hp _,?_⟩;by_cases h2:65536 <x.d
   ·simp[h2,Zge 51 7,awp_ret];exact hr _ _ (hbad (by rw[hv,h1];simp;omega)) rfl
   ·have h3:valOK x=true:=by rw[hv,h1];simp;omega
    rw[h3]at hall;simp[h2,awp_skip,Zge 51 8,hw,hkl];rw[ht]at hall;simp at hall;exact⟨by simp[List.take_add_one,hx],by rw[ht];intro y hy;rcases List.mem_append.1 hy with h|h;exact hall.1 y h;rw[List.mem_singleton.1 h];exact hall.2⟩
 ·have hk2:k=vs.length:=by omega
  subst hk2;rw[if_neg (by omega),awp_exit];rw[List.take_length]at hI;have:=hs J hI;have e:List.take vs.length (List.map (V.int .i64 ∘ Val.a) vs)=List.map (V.int .i64 ∘ Val.a) vs:=List.take_of_length_le (by simp);simpa[e]using this
set_option maxRecDepth 100000 in
theorem p146:∀(t:Th),t.ok→PSp Tryz.prog GLx 51 [t.V] [.bool t.formed]:=by
 refine Th.ind λcs vs ps ih hok=>?_;obtain⟨ok1,ok2,ok3,ok4,ok5⟩:=hok;refine psp_of_awp (Zkk 51) rfl ?_;have hidx:IdxR Tryz.prog GLx 93 [] (ps.map Th.V) [] (ps.findIdx? λx=> !x.formed) []:=
  IdxR.map λx hx=>(p249 x (ih x hx (ok5 x hx))).fsp []
 have hidx2:=λh=>IdxR.map (P:=Tryz.prog) (GL:=GLx) (fid:=93) (caps:=[]) (f:=Th.V) (p:=λx=> !x.formed) (l:=ps) (h:=h) λx hx=>(p249 x (ih x hx (ok5 x hx))).fsp h;have hcf:=λh=>p153 (.v (.func 93 [])) 93 [] (FV.v 93 []) (ps.map Th.V) (by simp;omega) (by
  intro x hx;obtain⟨y,_,rfl⟩:=List.mem_map.1 hx;exact y.V3) (hidx2 h)
 simp only[all_idx]at hcf;have q1:=(p250 cs 64 (by omega)).fsp;have q2:=(p250 (vs.map Val.a) 32 (by simp;omega)).fsp;have hl:=λQ=>l146 cs vs ps ok2 ok4 Q;rw[Th.formed,formeds_all];generalize incC cs 64=A at*;generalize incC (vs.map Val.a) 32=B at*;generalize ps.all Th.formed=C at*;generalize vs.all valOK=D at*;simp only[Zga 51,awp_seq,awp_reg,awp_block,Zge 51 0,Zge 51 1,Zge 51 2,entry];simp[Th.V_eq];refine hl _ ?_ ?_
 ·rintro e h rfl h2;simp[h2,Zgr 51]
 ·rintro J rfl;simp[Zge 51 9];simp only[Zge 51 10];simp[nums]at q1 q2 ⊢;refine⟨_,_,q1 _,?_⟩;cases A with
  |false=>simp[awp_ret,Zgr 51]
  |true=>
   simp;refine⟨_,_,q2 _,?_⟩;cases B with
   |false=>simp[awp_ret,Zgr 51]
   |true=>
    simp at hcf ⊢;refine⟨_,_,(hcf _),?_⟩;simp[awp_ret,Zgr 51]
def thE (t:Th):Int:=if limT t then (if t.formed then 0 else 1) else 4
theorem p67 (t:Th) (h:t.ok):PSp Tryz.prog GLx 28 [t.V] [.int .i64 (thE t)]:=by
 refine psp_of_awp (Zkk 28) rfl ?_;have q1:=(p145 t h).fsp;have q2:=(p146 t h).fsp;unfold thE;generalize limT t=A at*;generalize t.formed=B at*;obtain⟨cs,vs,ps⟩:=t;simp only[Zga 28,awp_seq,awp_reg,awp_block,awp_cond,Zge 28 0,Zge 28 1,entry];simp[Th.V_eq,nums]at q1 q2 ⊢;refine⟨_,_,q1 _,?_⟩;cases A with
 |false=>simp[Zge 28 2,awp_ret,Zgr 28]
 |true=>
  simp[Zge 28 3];refine⟨_,_,q2 _,?_⟩;cases B with
  |false=>simp[Zge 28 4,awp_ret,Zgr 28]
  |true=>simp[awp_skip,Zge 28 5,awp_ret,Zgr 28]
theorem p255 (x:Val) (n:Int) (h:List Row) (q:Nat) (hq:h[q]?=some (.cells [.v (.int .i64 n)])) (hl:Low h):FSp Tryz.prog GLx 126 [.v x.V,.ref q 0] h [.v (.bool (x.a==n))] h:=by
 refine fsp_low (Zkk 126) rfl (Nat.le_refl _) hl (by simp[D.lt]) ?_;have hq':=get_old [.cells [.v (.int .i64 x.a),.v (.int .i64 x.n),.v (.int .i64 x.d)]] hq;simp[Zga 126,awp,Zge 126 0,Zge 126 1,Zgr 126,entryD,Val.V,hq']
def valT (t:Th) (n:Int):Option Val:=t.vs.find? λx=>x.a==n
def valN (t:Th) (n:Int):Int×Int:=match valT t n with|some x=>(x.n,x.d)|none=>(0,0)
theorem find_idx {α:Type} (p:α→Bool) (l:List α):(l.findIdx? p=none∧l.find? p=none)∨∃i x,l.findIdx? p=some i∧l[i]?=some x∧l.find? p=some x:=by
 cases h:l.findIdx? p with
 |none=>
  refine .inl ⟨rfl,?_⟩;rw[List.find?_eq_none];rw[List.findIdx?_eq_none_iff]at h;intro x hx;simp[h x hx]
 |some i=>
  obtain⟨h1,h2,h3⟩:=List.findIdx?_eq_some_iff_getElem.1 h;refine .inr ⟨i,l[i],rfl,List.getElem?_eq_getElem h1,?_⟩;rw[List.find?_eq_some_iff_getElem];exact⟨h2,i,h1,rfl,λj hj=>by simpa using h3 j hj⟩
theorem p158 (t:Th) (n:Int) (hok:t.ok):PSp Tryz.prog GLx 83 [t.V,.int .i64 n] [ratV (valN t n).1 (valN t n).2,.bool (valT t n).isSome]:=by
 obtain⟨cs,vs,ps⟩:=t;obtain⟨ok1,ok2,ok3,ok4,ok5⟩:=hok;have e1:valT (.mk cs vs ps) n=vs.find? λx=>x.a==n:=rfl;unfold valN;rw[e1];refine psp_of_awp (Zkk 83) rfl ?_;have hidx:=λh (hh:h[1]?=some (.cells [.v (.int .i64 n)])) (hl:Low h)=>IdxR.map (P:=Tryz.prog) (GL:=GLx) (fid:=126) (caps:=[.ref 1 0]) (f:=Val.V) (p:=λx=>x.a==n) (l:=vs) (h:=h) λx _=>p255 x n h 1 hh hl;have hcf:=λh hh hl=>p254 (.func 126 [.ref 1 0]) 126 [.ref 1 0] (FV.r 126 1 0 []) (vs.map Val.V) (by simp;omega) (by
  intro x hx;obtain⟨y,_,rfl⟩:=List.mem_map.1 hx;exact⟨_,rfl,rfl⟩) (hidx h hh hl)
 have hf:=find_idx (λx:Val=>x.a==n) vs;simp only[Zga 83,awp_seq,awp_reg,awp_cond,Zge 83 0,Zge 83 1,entry];simp[Th.V_eq];generalize (vs.findIdx? λx=>x.a==n)=I at*;refine⟨_,_,(hcf _ rfl ?_),?_⟩
 ·intro row hrow;simp[nums]at hrow;rcases hrow with rfl|rfl|rfl<;>simp[Row.low,D.lts,D.lt]
 simp only[Zge 83 2];rcases hf with ⟨rfl,e2⟩|⟨i,x,rfl,hx,e2⟩
 ·rw[e2];simp[idxI,Zge 83 3,putL,awp_ret,Zgr 83,ratV]
 ·rw[e2];have hi:¬(i:Int) <0:=by omega
  simp[idxI,hi,awp_skip,Zge 83 4,hx,Val.V,putL,awp_ret,Zgr 83,ratV]
def Th.cells (t:Th):List D:=[.v (nums .i64 t.cs),.v (.list (t.vs.map Val.V)),.v (.list (t.ps.map Th.V))]
mutual
def Th.kinds (n:Int):Th→Bool| .mk cs _ ps=>(cs.all λc=> !decide (n≤c))&&Th.kindss n ps
def Th.kindss (n:Int):List Th→Bool|[]=>true|k::ks=>k.kinds n&&Th.kindss n ks
end
theorem kindss_all (n:Int):∀l,Th.kindss n l=l.all (Th.kinds n)
 |[]=>rfl
 |k::ks=>by simp[Th.kindss,kindss_all n ks]
theorem p152 (c n:Int) (h:List Row) (q:Nat) (hq:h[q]?=some (.cells [.v (.int .i64 n)])):FSp Tryz.prog GLx 77 [.v (.int .i64 c),.ref q 0] h [.v (.bool (decide (n≤c)))] h:=by
 refine fsp_of_awp (Zkk 77) rfl ?_;simp[Zga 77,awp,Zge 77 0,Zge 77 1,Zgr 77,entryD,hq]
theorem p154 (t:Th) (n:Int) (h:List Row) (q:Nat) (hq:h[q]?=some (.cells [.v (.int .i64 n)])) (hl:Low h) (hp:PSp Tryz.prog GLx 42 [t.V,.int .i64 n] [.bool (t.kinds n)]):
  FSp Tryz.prog GLx 79 [.v t.V,.ref q 0] h [.v (.bool (!t.kinds n))] h:=by
 refine fsp_low (Zkk 79) rfl (Nat.le_refl _) hl (by simp[D.lt]) ?_;have hp:=hp.fsp;generalize t.kinds n=R at*;obtain⟨cs,vs,ps⟩:=t;have hq':=get_old [.cells (Th.mk cs vs ps).cells] hq;simp only[Th.cells,Th.cs,Th.vs,Th.ps]at hq';simp only[Zga 79,awp_seq,awp_reg,Zge 79 0,Zge 79 1,entryD];simp[Th.V_eq,nums]at hp hq' ⊢;simp[hq'];refine⟨_,_,hp _,?_⟩;simp[awp_ret,Zgr 79]
theorem p70 (n:Int):∀t:Th,t.ok→PSp Tryz.prog GLx 42 [t.V,.int .i64 n] [.bool (t.kinds n)]:=by
 refine Th.ind λcs vs ps ih hok=>?_;obtain⟨ok1,ok2,ok3,ok4,ok5⟩:=hok;refine psp_of_awp (Zkk 42) rfl ?_;have hlow:Low [Row.cells (Th.mk cs vs ps).cells,.cells [.v (.int .i64 n)]]:=by
  intro row hrow;simp[Th.cells,nums,Th.cs,Th.vs,Th.ps]at hrow;rcases hrow with rfl|rfl<;>simp[Row.low,D.lts,D.lt]
 have hi1:IdxR Tryz.prog GLx 77 [.ref 1 0] (cs.map (.int .i64)) [.cells (Th.mk cs vs ps).cells,.cells [.v (.int .i64 n)]] (cs.findIdx? λc=> !!decide (n≤c)) [.cells (Th.mk cs vs ps).cells,.cells [.v (.int .i64 n)]]:=
  IdxR.map λx hx=>by rw[Bool.not_not];exact p152 x n _ 1 rfl
 have hc1:=p151 (.func 77 [.ref 1 0]) 77 [.ref 1 0] (FV.r 77 1 0 []) (cs.map (.int .i64)) (by simp;omega) (by
  intro x hx;obtain⟨y,_,rfl⟩:=List.mem_map.1 hx;exact⟨_,rfl⟩) hi1
 have hi2:IdxR Tryz.prog GLx 79 [.ref 1 0] (ps.map Th.V) [.cells (Th.mk cs vs ps).cells,.cells [.v (.int .i64 n)]] (ps.findIdx? λc=> !c.kinds n) [.cells (Th.mk cs vs ps).cells,.cells [.v (.int .i64 n)]]:=
  IdxR.map λx hx=>p154 x n _ 1 rfl hlow (ih x hx (ok5 x hx))
 have hc2:=p153 (.func 79 [.ref 1 0]) 79 [.ref 1 0] (FV.r 79 1 0 []) (ps.map Th.V) (by simp;omega) (by
  intro x hx;obtain⟨y,_,rfl⟩:=List.mem_map.1 hx;exact y.V3) hi2
 rw[all_idx]at hc1 hc2;rw[Th.kinds,kindss_all];generalize (cs.all λc=> !decide (n≤c))=A at*;generalize (ps.all (Th.kinds n))=B at*;simp only[Zga 42,awp_seq,awp_reg,Zge 42 0,Zge 42 1,entry];simp[Th.V_eq,nums,Th.cells,Th.cs,Th.vs,Th.ps]at hc1 hc2 ⊢;refine⟨_,_,hc1,?_⟩;cases A with
 |false=>simp[awp_ret,Zgr 42]
 |true=>
  simp;refine⟨_,_,hc2,?_⟩;simp[awp_ret,Zgr 42]
theorem p65 (l:List Int) (hn:l.length≤2^40):PSp Tryz.prog GLx 38 [nums .i64 l] [.int .i64 ((l.find? λx=>x != 0).getD 0)]:=by
 refine psp_of_awp (Zkk 38) rfl ?_;obtain⟨R,hR⟩:∃R,(l.find? λx=>x != 0).getD 0=R:=⟨_,rfl⟩;rw[hR];simp only[Zga 38,awp_seq,awp_reg,awp_block,Zge 38 0,Zge 38 1,Zge 38 2,entry];simp[nums];refine awp_loop_inv l.length (λk=>⟨[(3,.v (.int .i64 0)),(6,.v (nums .i64 l)),(7,.v (.int .i64 l.length)),(8,.v (.int .i64 k))],[]⟩) (λk=>((l.drop k).find? λx=>x != 0).getD 0=R) (by simp[nums]) (by simpa using hR) ?_;intro k hk hI;simp only[Zgl 38 0,awp_seq,awp_reg,awp_block,awp_cond,Zge 38 3];simp[nums];by_cases h1:k <l.length
 ·obtain⟨x,hx⟩:∃x,l[k]?=some x:=⟨_,List.getElem?_eq_getElem h1⟩;have hw:IntKind.i64.wrap ((k:Int)+1)=k+1:=wrap_i64 (by omega) (by omega);rw[drop_cons_get hx]at hI;rw[if_pos (by omega),awp_skip];simp only[Zge 38 4,Zge 38 5];simp[hx];by_cases b1:x=0
  ·subst b1;simp at hI;simp[awp_skip,Zge 38 7,hw,h1,hI]
  ·simp[b1]at hI;subst hI;simp[b1,Zge 38 6,awp_ret,Zgr 38]
 ·have hk2:k=l.length:=by omega
  subst hk2;simp at hI;rw[if_neg (by omega),awp_exit];simp[awp_ret,Zge 38 8,Zgr 38,hI]
def pieceA (k:Int):F:= .mk 1 ((IntKind.i64.wrap (k.tdiv 8)).tmod 6) [] []
def pieceC (k:Int):F:= .mk 2 ((IntKind.i64.wrap (k.tdiv 8)).tmod 2) [⟨(IntKind.i64.wrap (k.tdiv 48)).tmod 4,1,
 IntKind.i64.wrap (IntKind.i64.wrap ((IntKind.i64.wrap (k.tdiv 48)).tmod 4+1)+(IntKind.i64.wrap (k.tdiv 192)).tmod 2),1,(IntKind.i64.wrap (k.tdiv 384)).tmod 2==1,false,false,false⟩] []
def pieceF (n:Int):F:=
 let k:=aroundI n 1048576
 if k.tmod 8=0∨k.tmod 8=1∨k.tmod 8=2 then pieceA k
 else if k.tmod 8=3∨k.tmod 8=4 then pieceC k
 else if k.tmod 8=5 then .mk 4 0 [] [pieceC k,pieceA k]
 else if k.tmod 8=6 then .mk 3 0 [] [pieceA k]
 else .mk 6 0 [] [pieceA k]
set_option maxRecDepth 100000 in
set_option maxHeartbeats 2000000 in
theorem p212 (n:Int):PSp Tryz.prog GLx 48 [.int .i64 n] [(pieceF n).V]:=by
 refine psp_of_awp (Zkk 48) rfl ?_;have p1:=(p11 n 1048576 (by decide)).fsp;unfold pieceF pieceA pieceC;generalize aroundI n 1048576=k at*;simp at p1;simp only[Zga 48,awp_seq,awp_reg,awp_block,awp_cond,Zge 48 0,Zge 48 1,entry];simp;refine⟨_,_,p1 _,?_⟩;simp[Zge 48 2,putL];simp[Zge 48 3,putL];simp[Zge 48 4,putL];simp[Zge 48 5,putL];by_cases h0:k.tmod 8=0
 ·simp[Zge 48 6,Zge 48 7,h0,awp_skip,Zge 48 10,putL,awp_ret,Zgr 48,F.V_eq]
 by_cases h1:k.tmod 8=1
 ·simp[Zge 48 6,Zge 48 7,Zge 48 8,h1,awp_skip,Zge 48 10,putL,awp_ret,Zgr 48,F.V_eq]
 by_cases h2:k.tmod 8=2
 ·simp[Zge 48 6,Zge 48 7,Zge 48 8,Zge 48 9,h2,awp_skip,Zge 48 10,putL,awp_ret,Zgr 48,F.V_eq]
 by_cases h3:k.tmod 8=3
 ·simp[Zge 48 6,Zge 48 7,Zge 48 8,Zge 48 9,Zge 48 11,h3,awp_skip,Zge 48 13,putL,awp_ret,Zgr 48,F.V_eq,Ivl.V]
 by_cases h4:k.tmod 8=4
 ·simp[Zge 48 6,Zge 48 7,Zge 48 8,Zge 48 9,Zge 48 11,Zge 48 12,h4,awp_skip,Zge 48 13,putL,awp_ret,Zgr 48,F.V_eq,Ivl.V]
 by_cases h5:k.tmod 8=5
 ·simp[Zge 48 6,Zge 48 7,Zge 48 8,Zge 48 9,Zge 48 11,Zge 48 12,Zge 48 14,h5,awp_skip,Zge 48 15,putL,awp_ret,Zgr 48,F.V_eq,Ivl.V]
 by_cases h6:k.tmod 8=6
 ·simp[Zge 48 6,Zge 48 7,Zge 48 8,Zge 48 9,Zge 48 11,Zge 48 12,Zge 48 14,Zge 48 16,h6,awp_skip,Zge 48 17,putL,awp_ret,Zgr 48,F.V_eq]
 simp[Zge 48 6,Zge 48 7,Zge 48 8,Zge 48 9,Zge 48 11,Zge 48 12,Zge 48 14,Zge 48 16,h0,h1,h2,h3,h4,h5,h6,awp_skip,Zge 48 18,putL,awp_ret,Zgr 48,F.V_eq]
theorem aroundI_b (a n:Int) (hn:0 <n): -n <aroundI a n∧aroundI a n <n:=by
 have key:∀b:Int,-n <b.tmod n∧b.tmod n <n:=λb=>by
  have h1:=Int.tmod_lt_of_pos b hn;have h2:=Int.tmod_lt_of_pos (-b) hn;rw[Int.neg_tmod]at h2;omega
 unfold aroundI;split<;>exact key _
theorem pickI_b (l:List Int) (i n:Int) (hn:0 <n): -n <pickI l i n∧pickI l i n <n:=by
 unfold pickI;split
 ·omega
 ·split
  ·exact aroundI_b _ _ hn
  ·omega
def claimF (l:List Int) (i:Nat):Clm:=
 let k:=pickI l (2*i+1) 1000
 let m:=pickI l (2*i+2) 1048576
 ⟨if i=2∧(IntKind.i64.wrap (k.tdiv 16)).tmod 4=0 then [0,1] else if 0 <i∧(IntKind.i64.wrap (k.tdiv 4)).tmod 2=0 then [(IntKind.i64.wrap (k.tdiv 8)).tmod i] else [],
  if k.tmod 4=0 then .mk 5 0 [] [pieceF m,pieceF (IntKind.i64.wrap (k.tdiv 4))] else pieceF m⟩
def manyC (l:List Int):Nat:=(1+pickI l 0 3).toNat
def claimsF (l:List Int):List Clm:=(List.range (manyC l)).map (claimF l)
theorem manyC_le (l:List Int):manyC l≤3:=by have:=pickI_b l 0 3 (by decide);unfold manyC;omega
def c124t:AC:=(.seq (.seq (.reg (oG 23 10) [0,3,4,5,6,7,46]) (.cond (.t 46 false) (.reg (oG 23 11) [0,3,4,5,6,7]) .skip)) (.seq (.seq (.reg (oG 23 12) [0,3,4,5,7,60]) (.cond (.t 60 false) (.reg (oG 23 13) [0,3,4,5,7]) .skip)) (.reg (oG 23 14) [0,3,4,5])))
def c124m:AC:=(.seq (.reg (oG 23 8) [0,3,4,5,6,7,30]) (.cond (.t 30 false) (.regD (oG 23 9) [0,3,4,5,6,7] [[],[0],[],[2],[2,3],[0,1,2,3,4],[0,1,2,3,4,5],[0,1,2,3,4,5,6],[0,1,2,3,4,5,6,7]]) .skip))
theorem c124l0_eq:(lG 23 0)=(.seq (.seq (.reg (oG 23 4) [0,3,4,5,13]) (.cond (.t 13 false) .skip (.exit 0))) (.seq (.block 1 (.seq (.reg (oG 23 6) [0,3,4,5,6]) (.seq (.reg (oG 23 7) [0,3,4,5,6,7]) (.seq c124m c124t)))) (.reg (oG 23 5) [0,3,4,5]))):=(Zgl 23 0 :)
def refsF (i:Nat) (k:Int):List Int:=if i=2∧(IntKind.i64.wrap (k.tdiv 16)).tmod 4=0 then [0,1] else if 0 <i∧(IntKind.i64.wrap (k.tdiv 4)).tmod 2=0 then [(IntKind.i64.wrap (k.tdiv 8)).tmod i] else []
set_option maxRecDepth 100000 in
theorem l124t (i:Nat) (k:Int) (b:F) (d0 d4 dI:D) (hdI:dI.copy= .v (.list (b.ins.map Ivl.V))) (xs:List V) (J:List Row) (hi:i≤3) (hxs:xs.length≤3) (hh:headOK 5 xs=true) (Q:AExit→St→Prop)
  (hQ:∀J',Q .normal ⟨[(0,d0),(3,.own 89 5 (xs++[Clm.V ⟨refsF i k,b⟩])),(4,d4),(5,.v (.int .i64 i))],J'⟩):
  ∀e,find e 0=d0→find e 3= .own 89 5 xs→find e 4=d4→find e 5= .v (.int .i64 i)→find e 6= .v (.int .i64 k)→find e 7= .ref J.length 0→awp Tryz.prog GLx c124t Q ⟨e,
   J++[.cells [.own 3 1 [],.v (.int .i64 b.op),.v (.int .i64 b.n),dI,.v (.list (b.kids.map F.V))]]⟩:=by
 simp only[D.copy]at hdI;intro e f0 f3 f4 f5 f6 f7;have hroom:roomy (xs.length+1) 88=true:=by simp[roomy];omega
 have hq:∀(refs:List Int) J',refs=refsF i k→Q .normal ⟨[(0,d0),(3,.own 89 5 (xs++[V.agg [.list (refs.map (.int .i64)),.int .i64 b.op,.int .i64 b.n,.list (b.ins.map Ivl.V),.list (b.kids.map F.V)]])),(4,d4),(5,.v (.int .i64 i))],J'⟩:=by
  rintro refs J' rfl;exact hQ J'
 clear hQ;unfold refsF at hq;unfold c124t;simp only[awp_seq,awp_reg,awp_cond,Zge 23 10];simp[f0,f3,f4,f5,f6,f7];by_cases hi0:i=0
 ·subst hi0;simp[awp_skip,Zge 23 12,Zge 23 14,hroom,hdI];exact hq [] _ (by simp)
 have hi1:0 <i:=by omega
 have hi1':(i:Int)≠0:=by omega
 by_cases h2:(IntKind.i64.wrap (k.tdiv 4)).tmod 2=0
 ·simp[hi1,h2,Zge 23 11,hi0];by_cases h3:i=2
  ·subst h3;by_cases h4:(IntKind.i64.wrap (k.tdiv 16)).tmod 4=0
   ·simp[Zge 23 12,h4,Zge 23 13,Zge 23 14,hroom,hdI];exact hq [0,1] _ (by simp[h4])
   ·simp[Zge 23 12,h4,awp_skip,Zge 23 14,hroom,hdI];exact hq [(IntKind.i64.wrap (k.tdiv 8)).tmod 2] _ (by simp[h4,h2])
  ·have h3':¬(i:Int)=2:=by omega
   simp[Zge 23 12,h3',awp_skip,Zge 23 14,hroom,hdI];exact hq [(IntKind.i64.wrap (k.tdiv 8)).tmod i] _ (by simp[h3,h2,hi1])
 ·simp[hi1,h2,awp_skip];by_cases h3:i=2
  ·subst h3;by_cases h4:(IntKind.i64.wrap (k.tdiv 16)).tmod 4=0
   ·simp[Zge 23 12,h4,Zge 23 13,Zge 23 14,hroom,hdI];exact hq [0,1] _ (by simp[h4])
   ·simp[Zge 23 12,h4,Zge 23 14,hroom,hdI];exact hq [] _ (by simp[h4,h2])
  ·have h3':¬(i:Int)=2:=by omega
   simp[Zge 23 12,h3',Zge 23 14,hroom,hdI];exact hq [] _ (by simp[h3,h2])
set_option maxRecDepth 100000 in
theorem l124m (k:Int) (f g:F) (hg:PSp Tryz.prog GLx 48 [.int .i64 (IntKind.i64.wrap (k.tdiv 4))] [g.V]) (d0 d4 d5:D) (xs:List V) (J:List Row) (Q:AExit→St→Prop)
  (hQ:∀(b:F) e (dI:D),dI.copy= .v (.list (b.ins.map Ivl.V))→b=(if k.tmod 4=0 then .mk 5 0 [] [f,g] else f)→find e 0=d0→find e 3= .own 89 5 xs→find e 4=d4→find e 5=d5→find e 6= .v (.int .i64 k)→find e 7= .ref J.length 0→Q .normal ⟨e,
   J++[.cells [.own 3 1 [],.v (.int .i64 b.op),.v (.int .i64 b.n),dI,.v (.list (b.kids.map F.V))]]⟩):
  awp Tryz.prog GLx c124m Q ⟨[(0,d0),(3,.own 89 5 xs),(4,d4),(5,d5),(6,.v (.int .i64 k)),(7,.ref J.length 0)],
   J++[.cells [.own 3 1 [],.v (.int .i64 f.op),.v (.int .i64 f.n),.v (.list (f.ins.map Ivl.V)),.v (.list (f.kids.map F.V))]]⟩:=by
 unfold c124m;simp only[awp_seq,awp_reg,awp_cond,Zge 23 8];simp;by_cases h4:k.tmod 4=0
 ·rw[if_pos h4]at hQ ⊢;have hQ:=hQ _ [(0,d0),(3,.own 89 5 xs),(4,d4),(5,d5),(6,.v (.int .i64 k)),(7,.ref J.length 0)] (.own 167 8 []) rfl rfl rfl rfl rfl rfl rfl rfl;simp only[F.op,F.n,F.kids,List.map_cons,List.map_nil]at hQ;rw[F.V_flds]at hg;rw[F.V_flds f,F.V_flds g]at hQ;simp only[awp_regD,Zge 23 9];simp;refine⟨_,_,⟨rfl,rfl⟩,_,hg,?_⟩;simp[putL];exact hQ
 ·rw[if_neg h4]at hQ ⊢;rw[awp_skip];exact hQ f _ _ rfl rfl rfl rfl rfl rfl rfl rfl
set_option maxRecDepth 100000 in
theorem p124 (l:List Int):PSp Tryz.prog GLx 23 [nums .i64 l] [.list ((claimsF l).map Clm.V)]:=by
 refine psp_of_awp (Zkk 23) rfl ?_;have p1:=(p47 l 0 3 (by decide)).fsp;have hb:=pickI_b l 0 3 (by decide);have hm:manyC l=(1+pickI l 0 3).toNat:=rfl;have hm3:=manyC_le l;have w1:IntKind.i64.wrap (1+pickI l 0 3)=1+pickI l 0 3:=wrap_i64 (by omega) (by omega);simp[nums]at p1;simp only[Zga 23,awp_seq,awp_reg,awp_block,Zge 23 0,Zge 23 1,Zge 23 2,Zge 23 3,entry];simp[nums];refine⟨_,_,p1 _,?_⟩;simp[w1];generalize 1+pickI l 0 3=M at*;refine awp_loop_I (manyC l) (λi s=>s.e=[(0,.v (nums .i64 l)),(3,.own 89 5 ((List.range i).map λj=>(claimF l j).V)),(4,.v (.int .i64 M)),(5,.v (.int .i64 i))]) (by simp[nums]) ?_;rintro i ⟨se,J⟩ hi he;simp only at he;subst he;rw[c124l0_eq];simp only[awp_seq,awp_reg,awp_block,awp_cond,Zge 23 4];simp[nums];by_cases hlt:i <manyC l
 ·have hlt':(i:Int) <M:=by omega
  have v1:IntKind.i64.wrap (2*(i:Int))=2*i:=wrap_i64 (by omega) (by omega);have v2:IntKind.i64.wrap (2*(i:Int)+1)=2*i+1:=wrap_i64 (by omega) (by omega);have v3:IntKind.i64.wrap (2*(i:Int)+2)=2*i+2:=wrap_i64 (by omega) (by omega);have hw:IntKind.i64.wrap ((i:Int)+1)=i+1:=wrap_i64 (by omega) (by omega);have p2:=(p47 l (2*i+1) 1000 (by decide)).fsp;have p3:=(p47 l (2*i+2) 1048576 (by decide)).fsp;have hcl:∀b,b=(if (pickI l (2*i+1) 1000).tmod 4=0 then F.mk 5 0 [] [pieceF (pickI l (2*i+2) 1048576),pieceF (IntKind.i64.wrap ((pickI l (2*i+1) 1000).tdiv 4))] else pieceF (pickI l (2*i+2) 1048576))→(⟨refsF i (pickI l (2*i+1) 1000),b⟩:Clm)=claimF l i:=by
   rintro b rfl;rfl
  have p4:=(p212 (pickI l (2*i+2) 1048576)).fsp;have p5:=p212 (IntKind.i64.wrap ((pickI l (2*i+1) 1000).tdiv 4));generalize pickI l (2*i+1) 1000=k at*;generalize pickI l (2*i+2) 1048576=m at*;generalize pieceF m=f at*;generalize pieceF (IntKind.i64.wrap (k.tdiv 4))=g at*;rw[F.V_flds]at p4;simp[nums]at p2 p3 p4;rw[if_pos hlt',awp_skip];simp only[Zge 23 6];simp[v1,v2];refine⟨_,_,p2 _,?_⟩;simp[Zge 23 7,v1,v3];refine⟨_,_,p3 _,?_⟩;simp;refine⟨_,_,p4 _,?_⟩;simp[putL];refine l124m k f g p5 _ _ _ _ J _ ?_;intro b e dI hdI hbb f0 f3 f4 f5 f6 f7;simp only[];refine l124t i k b _ _ dI hdI _ J (by omega) (by simp;omega) ?_ _ ?_ e f0 f3 f4 f5 f6 f7
  ·cases i with
   |zero=>rfl
   |succ i=>simp[List.range_succ_eq_map,Clm.V]
  ·intro J';rw[hcl b hbb];simp[Zge 23 5,hw,hlt,List.range_succ]
 ·have:i=manyC l:=by omega
  subst this;have hlt':¬((manyC l:Nat):Int) <M:=by omega
  rw[if_neg hlt',awp_exit];simp[awp_ret,Zge 23 15,Zgr 23,claimsF,Function.comp_def]
def datF (l:List Int) (i:Nat):Dat:=⟨i,(pickI l (4+i) 1000).tmod 3,IntKind.i64.wrap (36000+(pickI l (4+i) 1000).tmod 50),(pickI l (4+i) 1000).tmod 20⟩
def badF (l:List Int) (i:Nat):Option Int:=if (pickI l (4+i) 1000).tmod 5=0 then some i else none
def ownF (l:List Int) (i:Nat):Own:=⟨IntKind.i64.wrap (1+2*i+(pickI l (9+i) 1000).tmod 2),1,pickI l 8 3⟩
def licF (l:List Int) (i:Nat):Option Lic:=
 let k:=pickI l (9+i) 1000
 if k.tmod 3=0 then some ⟨IntKind.i64.wrap (1+k.tmod 5),IntKind.i64.wrap (2+k.tmod 7),k,IntKind.i64.wrap (k+IntKind.i64.wrap (k.tdiv 7))⟩ else none
def someF (l:List Int):Rgt:=
 ⟨pickI l 0 40,pickI l 1 5,if pickI l 2 3=0 then pickI l 3 5 else 0,claimsF l,(List.range (claimsF l).length).map (datF l),(List.range (claimsF l).length).filterMap (badF l),
  (List.range (pickI l 8 3).toNat).map (ownF l),(List.range (pickI l 8 3).toNat).filterMap (licF l)⟩
theorem claimsF_len (l:List Int):(claimsF l).length≤3:=by have:=manyC_le l;simpa[claimsF]using this
def mkR (a b c:Int) (cl:List Clm) (ds:List Dat) (bad:List Int) (os:List Own) (ls:List Lic):Row:=
 .cells [.v (.int .i64 a),.v (.int .i64 b),.v (.int .i64 c),.v (.list (cl.map Clm.V)),.own 80 4 (ds.map Dat.V),.own 3 1 (bad.map (.int .i64)),.own 84 3 (os.map Own.V),.own 86 4 (ls.map Lic.V)]
set_option maxRecDepth 100000 in
theorem l48_0 (l:List Int) (a b c:Int) (cl:List Clm) (hcl:cl.length≤3) (R0:Row):
  awp Tryz.prog GLx (.loop (lG 5 0)) (λe s=>e= .exit 0∧find s.e 0= .v (nums .i64 l)∧find s.e 2= .ref 0 0∧find s.e 3= .ref 1 0∧s.h=[R0,mkR a b c cl ((List.range cl.length).map (datF l)) ((List.range cl.length).filterMap (badF l)) [] []])
   ⟨[(0,.v (nums .i64 l)),(2,.ref 0 0),(3,.ref 1 0),(4,.v (.int .i64 0))],[R0,mkR a b c cl [] [] [] []]⟩:=by
 refine awp_loop_nat0 cl.length (λi=>⟨[(0,.v (nums .i64 l)),(2,.ref 0 0),(3,.ref 1 0),(4,.v (.int .i64 i))],[R0,mkR a b c cl ((List.range i).map (datF l)) ((List.range i).filterMap (badF l)) [] []]⟩) (by simp) ?_;intro i hi;simp only[Zgl 5 0,awp_seq,awp_reg,awp_block,awp_cond,Zge 5 5];simp[mkR];by_cases hlt:i <cl.length
 ·have v1:IntKind.i64.wrap (4+(i:Int))=4+i:=wrap_i64 (by omega) (by omega);have hw:IntKind.i64.wrap ((i:Int)+1)=i+1:=wrap_i64 (by omega) (by omega);have p1:=(p47 l (4+i) 1000 (by decide)).fsp;have hlb:((List.range i).filterMap (badF l)).length≤i:=by have:=List.length_filterMap_le (badF l) (List.range i);simpa using this
  have r1:roomy (i+1) 32=true:=by simp[roomy];omega
  have r2:roomy (((List.range i).filterMap (badF l)).length+1) 8=true:=by simp[roomy];omega
  simp[nums]at p1;have hd:datF l i=⟨i,(pickI l (4+i) 1000).tmod 3,IntKind.i64.wrap (36000+(pickI l (4+i) 1000).tmod 50),(pickI l (4+i) 1000).tmod 20⟩:=rfl;have hb:badF l i=if (pickI l (4+i) 1000).tmod 5=0 then some (i:Int) else none:=rfl;generalize pickI l (4+i) 1000=k at*;rw[if_pos (by omega),awp_skip];simp only[Zge 5 7];simp[v1,nums];refine⟨_,_,p1 _,?_⟩;simp[Zge 5 8,putL,r1];by_cases h5:k.tmod 5=0
  ·simp[Zge 5 9,h5,Zge 5 10,r2,Zge 5 6,hw,hlt,List.range_succ,hd,hb,Dat.V]
  ·simp[Zge 5 9,h5,awp_skip,Zge 5 6,hw,hlt,List.range_succ,hd,hb,Dat.V]
 ·have:i=cl.length:=by omega
  subst this;rw[if_neg (by omega),awp_exit];simp
set_option maxRecDepth 100000 in
theorem l48_1 (l:List Int) (a b c:Int) (cl:List Clm) (ds:List Dat) (bad:List Int) (R0:Row):
  awp Tryz.prog GLx (.loop (lG 5 1)) (λe s=>e= .exit 2∧find s.e 2= .ref 0 0∧find s.e 3= .ref 1 0∧s.h=[R0,mkR a b c cl ds bad ((List.range (pickI l 8 3).toNat).map (ownF l)) ((List.range (pickI l 8 3).toNat).filterMap (licF l))])
   ⟨[(0,.v (nums .i64 l)),(2,.ref 0 0),(3,.ref 1 0),(6,.v (.int .i64 (pickI l 8 3))),(7,.v (.int .i64 0))],[R0,mkR a b c cl ds bad [] []]⟩:=by
 have hN:=pickI_b l 8 3 (by decide);have hO:∀i,ownF l i=⟨IntKind.i64.wrap (1+2*i+(pickI l (9+i) 1000).tmod 2),1,pickI l 8 3⟩:=λ_=>rfl;generalize pickI l 8 3=N at*;refine awp_loop_nat0 N.toNat (λi=>⟨[(0,.v (nums .i64 l)),(2,.ref 0 0),(3,.ref 1 0),(6,.v (.int .i64 N)),(7,.v (.int .i64 i))],[R0,mkR a b c cl ds bad ((List.range i).map (ownF l)) ((List.range i).filterMap (licF l))]⟩) (by simp) ?_;intro i hi;simp only[Zgl 5 1,awp_seq,awp_reg,awp_block,awp_cond,Zge 5 13];simp[mkR];by_cases hlt:i <N.toNat
 ·have hlt':(i:Int) <N:=by omega
  have v1:IntKind.i64.wrap (9+(i:Int))=9+i:=wrap_i64 (by omega) (by omega);have v2:IntKind.i64.wrap (2*(i:Int))=2*i:=wrap_i64 (by omega) (by omega);have v3:IntKind.i64.wrap (1+2*(i:Int))=1+2*i:=wrap_i64 (by omega) (by omega);have hw:IntKind.i64.wrap ((i:Int)+1)=i+1:=wrap_i64 (by omega) (by omega);have p1:=(p47 l (9+i) 1000 (by decide)).fsp;have hlb:((List.range i).filterMap (licF l)).length≤i:=by have:=List.length_filterMap_le (licF l) (List.range i);simpa using this
  have r1:roomy (i+1) 24=true:=by simp[roomy];omega
  have r2:roomy (((List.range i).filterMap (licF l)).length+1) 32=true:=by simp[roomy];omega
  simp[nums]at p1;have hd:=hO i;have hb:licF l i=if (pickI l (9+i) 1000).tmod 3=0 then some ⟨IntKind.i64.wrap (1+(pickI l (9+i) 1000).tmod 5),IntKind.i64.wrap (2+(pickI l (9+i) 1000).tmod 7),(pickI l (9+i) 1000),IntKind.i64.wrap ((pickI l (9+i) 1000)+IntKind.i64.wrap ((pickI l (9+i) 1000).tdiv 7))⟩ else none:=rfl;generalize pickI l (9+i) 1000=k at*;rw[if_pos (by omega),awp_skip];simp only[Zge 5 15];simp[v1,nums];refine⟨_,_,p1 _,?_⟩;simp[Zge 5 16,putL,r1,v2,v3];by_cases h5:k.tmod 3=0
  ·simp[Zge 5 17,h5,Zge 5 18,putL,r2,Zge 5 14,hw,hlt',List.range_succ,hd,hb,Own.V,Lic.V]
  ·simp[Zge 5 17,h5,awp_skip,Zge 5 14,hw,hlt',List.range_succ,hd,hb,Own.V]
 ·have:i=N.toNat:=by omega
  subst this;rw[if_neg (by omega),awp_exit];simp
def c48t:AC:=(.seq (.seq (.reg (oG 5 4) [0,2,3,4]) (.block 0 (.loop (lG 5 0)))) (.seq (.reg (oG 5 11) [0,2,3,6]) (.seq (.seq (.reg (oG 5 12) [0,2,3,6,7]) (.block 2 (.loop (lG 5 1)))) (.seq (.reg (oG 5 19) [2]) .ret))))
theorem c48_eq:(gA 5)=(.seq (.reg (oG 5 0) [0,2]) (.seq (.reg (oG 5 1) [0,2,3]) (.seq (.seq (.reg (oG 5 2) [0,2,3,18]) (.cond (.t 18 false) (.reg (oG 5 3) [0,2,3]) .skip)) c48t))):=(Zga 5 :)
set_option maxRecDepth 100000 in
theorem p48 (l:List Int):PSp Tryz.prog GLx 5 [nums .i64 l] [(someF l).V]:=by
 refine psp_of_awp (Zkk 5) rfl ?_;have p1:=(p47 l 0 40 (by decide)).fsp;have p2:=(p47 l 1 5 (by decide)).fsp;have p3:=(p124 l).fsp;have p4:=(p47 l 2 3 (by decide)).fsp;have p5:=(p47 l 3 5 (by decide)).fsp;have p6:=(p47 l 8 3 (by decide)).fsp;have hl0:=λc R0=>l48_0 l (pickI l 0 40) (pickI l 1 5) c (claimsF l) (claimsF_len l) R0;have hl1:=λc ds bad R0=>l48_1 l (pickI l 0 40) (pickI l 1 5) c (claimsF l) ds bad R0;simp[nums,mkR]at p1 p2 p3 p4 p5 p6 hl0 hl1;rw[c48_eq];simp only[awp_seq,awp_reg,awp_cond,Zge 5 0,Zge 5 1,entry];simp[nums];refine⟨_,_,p1 _,?_⟩;simp;refine⟨_,_,p2 _,?_⟩;simp;refine⟨_,_,p3 _,?_⟩;simp[putL,Zge 5 2];refine⟨_,_,p4 _,?_⟩;simp;have fin:∀(c:Int) (e:Env),find e 0= .v (nums .i64 l)→find e 2= .ref 0 0→find e 3= .ref 1 0→c=(if pickI l 2 3=0 then pickI l 3 5 else 0)→
   awp Tryz.prog GLx c48t (λe s=>(match e with| .exit _=>False|_=>True)∧resVs s (gR 5)=some [(someF l).V])
    ⟨e,[.cells [.v (.int .i64 0),.v (.int .i64 0),.v (.int .i64 0),.own 89 5 [],.own 80 4 [],.own 3 1 [],.own 84 3 [],.own 86 4 []],
     .cells [.v (.int .i64 (pickI l 0 40)),.v (.int .i64 (pickI l 1 5)),.v (.int .i64 c),.v (.list ((claimsF l).map Clm.V)),.own 80 4 [],.own 3 1 [],.own 84 3 [],.own 86 4 []]]⟩:=by
  intro c e f0 f2 f3 hc;unfold c48t;simp only[awp_seq,awp_reg,awp_block,Zge 5 4];simp[f0,f2,f3,nums];refine awp_mono _ ?_ (hl0 c _);rintro e ⟨se,sh⟩ ⟨rfl,g0,g2,g3,hh⟩;simp only at g0 g2 g3 hh;subst hh;simp[Zge 5 11,g0,g2,g3];refine⟨_,_,p6 _,?_⟩;simp[Zge 5 12];have q:=hl1 c ((List.range (claimsF l).length).map (datF l)) ((List.range (claimsF l).length).filterMap (badF l)) (.cells [.v (.int .i64 0),.v (.int .i64 0),.v (.int .i64 0),.own 89 5 [],.own 80 4 [],.own 3 1 [],.own 84 3 [],.own 86 4 []]);simp at q;refine awp_mono _ ?_ q;rintro e ⟨se,sh⟩ ⟨rfl,g2,g3,hh⟩;simp only at g2 g3 hh;subst hh;simp[Zge 5 19,g2,g3,awp_ret,Zgr 5,putL,someF,Rgt.V,Rgt.cs,nums,hc]
 by_cases h0:pickI l 2 3=0
 ·simp[h0,Zge 5 3];refine⟨_,_,p5 _,?_⟩;simp[putL];exact fin _ _ rfl rfl rfl (by simp[h0])
 ·simp[h0,awp_skip];exact fin _ _ rfl rfl rfl (by simp[h0])
theorem wrap_ok (n:Int):i64 (IntKind.i64.wrap n):=by
 have h1:=Int.emod_nonneg n (b:=18446744073709551616) (by decide);have h2:=Int.emod_lt_of_pos n (b:=18446744073709551616) (by decide);unfold IntKind.wrap i64;simp only[IntKind.bits,IntKind.signed];have e1:((2:Int)^64)=18446744073709551616:=by decide
 have e2:((2:Int)^(64-1))=9223372036854775808:=by decide
 simp only[e1,e2,Bool.true_and,decide_eq_true_eq,ge_iff_le];split<;>omega
theorem tmod_b (b n:Int) (hn:0 <n): -n <b.tmod n∧b.tmod n <n:=by
 have h1:=Int.tmod_lt_of_pos b hn;have h2:=Int.tmod_lt_of_pos (-b) hn;rw[Int.neg_tmod]at h2;omega
theorem tmod_ok (b n:Int) (hn:0 <n) (h:n≤2^40):i64 (b.tmod n):=by have:=tmod_b b n hn;unfold i64;omega
theorem pickI_ok (l:List Int) (i n:Int) (hn:0 <n) (h:n≤2^40):i64 (pickI l i n):=by have:=pickI_b l i n hn;unfold i64;omega
structure F.tiny (m:Nat) (f:F):Prop where
 one:∀g∈f.nodes,g.ok1∧g.ins.length≤1
 len:f.nodes.length≤m
 size:f.size≤m
theorem F.tiny.ok {m:Nat} {f:F} (h:f.tiny m) (hm:m≤2^20):f.ok:=⟨λg hg=>(h.one g hg).1,by have:=h.size;omega⟩
theorem flat_le {α:Type} {f:α→List Int} (c:Nat):∀l:List α,(∀x∈l,(f x).length≤c)→(l.flatMap f).length≤c*l.length
 |[],_=>by simp
 |x::l,h=>by
  have h1:=h x (by simp);have h2:=flat_le c l λy hy=>h y (by simp[hy]);simp only[List.flatMap_cons,List.length_append,List.length_cons,Nat.mul_succ];omega
theorem encInts_le (l:List Int):(encInts l).length≤10+10*l.length:=by
 have h1:=uvar_len l.length;have h2:=flat_encI_len l;rw[encInts,List.length_append];omega
theorem F.tiny.enc {m:Nat} {f:F} (h:f.tiny m):(encF f).length≤200*m:=by
 have key:=flat_le (f:=encNode) 200 f.nodes λg hg=>by
  have h1:=(h.one g hg).2;have h2:=flat_le (f:=encIvl) 100 g.ins λx _=>by
   have:=encInts_le [x.ln,x.ld,x.hn,x.hd,b01 x.lo,b01 x.ho,b01 x.li,b01 x.hi];simp only[List.length_cons,List.length_nil]at this;exact Nat.le_trans this (by decide)
  have:=encI_len g.op;have:=encI_len g.n;have:=encI_len g.ins.length;have:=encI_len g.kids.length;simp only[encNode,List.length_append];omega
 have:=h.len;have:200*f.nodes.length≤200*m:=Nat.mul_le_mul_left _ this;exact Nat.le_trans key this
theorem pieceA_tiny (k:Int):(pieceA k).tiny 1:=by
 refine⟨?_,by simp[pieceA,F.nodes_eq],by simp[pieceA,F.size_eq]⟩;simp only[pieceA,F.nodes_eq,List.flatMap_nil,List.mem_singleton,forall_eq,F.ok1,F.op,F.n,F.ins];exact⟨⟨by unfold i64;omega,tmod_ok _ _ (by decide) (by decide),by simp,by simp⟩,by simp⟩
theorem pieceC_tiny (k:Int):(pieceC k).tiny 1:=by
 refine⟨?_,by simp[pieceC,F.nodes_eq],by simp[pieceC,F.size_eq]⟩;simp only[pieceC,F.nodes_eq,List.flatMap_nil,List.mem_singleton,forall_eq,F.ok1,F.op,F.n,F.ins];exact⟨⟨by unfold i64;omega,tmod_ok _ _ (by decide) (by decide),⟨tmod_ok _ _ (by decide) (by decide),by simp[i64],wrap_ok _,by simp[i64]⟩,by simp⟩,by simp⟩
theorem tiny_node {op:Int} {kids:List F} {m:Nat} (ho:i64 op) (hk:∀k∈kids,k.tiny m):(F.mk op 0 [] kids).tiny (1+m*kids.length):=by
 have s:∀l:List F,(∀k∈l,k.tiny m)→(l.flatMap F.nodes).length≤m*l.length∧(l.map F.size).sum≤m*l.length:=by
  intro l;induction l with
  |nil=>simp
  |cons x l ih=>
   intro h;have h1:=h x (by simp);have h2:=ih λk hk=>h k (by simp[hk]);have:=h1.len;have:=h1.size;simp only[List.flatMap_cons,List.length_append,List.length_cons,List.map_cons,List.sum_cons,Nat.mul_succ];omega
 have s1:=s kids hk;refine⟨?_,by rw[F.nodes_eq,List.length_cons];omega,by rw[F.size_eq];omega⟩;intro g hg;rw[F.nodes_eq]at hg;rcases List.mem_cons.1 hg with rfl|hg
 ·exact⟨⟨ho,by simp[F.n,i64],by simp[F.ins],by simp[F.ins]⟩,by simp[F.ins]⟩
 ·obtain⟨k,hk1,hk2⟩:=List.mem_flatMap.1 hg;exact(hk k hk1).one g hk2
theorem F.tiny.mono {m n:Nat} {f:F} (h:f.tiny m) (hn:m≤n):f.tiny n:=⟨h.one,Nat.le_trans h.len hn,Nat.le_trans h.size hn⟩
theorem pieceF_tiny (n:Int):(pieceF n).tiny 3:=by
 unfold pieceF;generalize aroundI n 1048576=k;have o:∀n:Int,0≤n→n≤6→i64 n:=λn h1 h2=>by unfold i64;omega
 simp only
 repeat' split
 ·exact(pieceA_tiny k).mono (by decide)
 ·exact(pieceC_tiny k).mono (by decide)
 ·exact(tiny_node (m:=1) (o _ (by decide) (by decide)) (by simp[pieceA_tiny,pieceC_tiny])).mono (by simp)
 ·exact(tiny_node (m:=1) (o _ (by decide) (by decide)) (by simp[pieceA_tiny])).mono (by simp)
 ·exact(tiny_node (m:=1) (o _ (by decide) (by decide)) (by simp[pieceA_tiny])).mono (by simp)
structure Clm.tiny (c:Clm):Prop where
 refs:∀n∈c.refs,i64 n
 lr:c.refs.length≤2
 body:c.body.tiny 7
theorem Clm.tiny.ok {c:Clm} (h:c.tiny):c.ok:=⟨h.refs,by have:=h.lr;omega,h.body.ok (by decide)⟩
theorem claimF_tiny (l:List Int) (i:Nat) (hi:i≤3):(claimF l i).tiny:=by
 unfold claimF;generalize pickI l (2*i+1) 1000=k;generalize pickI l (2*i+2) 1048576=m;refine⟨?_,?_,?_⟩
 ·simp only;split
  ·simp[i64]
  ·split
   ·rename_i h;simp only[List.mem_singleton,forall_eq];exact tmod_ok _ _ (by omega) (by omega)
   ·simp
 ·simp only;split
  ·simp
  ·split<;>simp
 ·simp only;split
  ·exact(tiny_node (m:=3) (by unfold i64;omega) (by simp[pieceF_tiny])).mono (by simp)
  ·exact(pieceF_tiny m).mono (by decide)
structure Rgt.tiny (m:Nat) (r:Rgt):Prop where
 file:i64 r.file
 state:i64 r.state
 force:i64 r.force
 claims:∀c∈r.claims,c.tiny
 dates:∀d∈r.dates,d.ok
 bad:∀n∈r.bad,i64 n
 owners:∀o∈r.owners,o.ok
 lics:∀h∈r.lics,h.ok
 lc:r.claims.length≤m
 ld:r.dates.length≤m
 lb:r.bad.length≤m
 lo:r.owners.length≤m
 ll:r.lics.length≤m
theorem encClm_le {c:Clm} (h:c.tiny):(encClm c).length≤1500:=by
 have h1:=encInts_le c.refs;have h2:=h.lr;have h3:=h.body.enc;have h4:=uvar_len (encF c.body).length;simp only[encClm,encRaw,List.length_append];omega
theorem encClms_le {l:List Clm} (h:∀c∈l,c.tiny):(encClms l).length≤10+1500*l.length:=by
 have h1:=flat_le (f:=encClm) 1500 l λc hc=>encClm_le (h c hc);have h2:=encI_len l.length;simp only[encClms,List.length_append];omega
theorem Rgt.tiny.ok {m:Nat} {r:Rgt} (h:r.tiny m) (hm:m≤2^20):r.ok:=by
 have:=h.lc;have:=h.ld;have:=h.lb;have:=h.lo;have:=h.ll;have:=encClms_le h.claims;exact⟨h.file,h.state,h.force,λc hc=>(h.claims c hc).ok,h.dates,h.bad,h.owners,h.lics,by omega,by omega,by omega,by omega,by omega,by omega⟩
theorem someF_tiny (l:List Int):(someF l).tiny 3:=by
 have hc:=claimsF_len l;have hp:=pickI_b l 8 3 (by decide);have o:∀i n:Int,0 <n→n≤2^40→i64 (pickI l i n):=λi n=>pickI_ok l i n;refine⟨o 0 40 (by decide) (by decide),o 1 5 (by decide) (by decide),?_,?_,?_,?_,?_,?_,hc,?_,?_,?_,?_⟩
 ·simp only[someF];split
  ·exact o 3 5 (by decide) (by decide)
  ·simp[i64]
 ·intro c h;simp only[someF,claimsF,List.mem_map,List.mem_range]at h;obtain⟨i,hi,rfl⟩:=h;have:=manyC_le l;exact claimF_tiny l i (by omega)
 ·intro d h;simp only[someF,List.mem_map,List.mem_range]at h;obtain⟨i,hi,rfl⟩:=h;exact⟨by simp only[datF];unfold i64;omega,tmod_ok _ _ (by decide) (by decide),wrap_ok _,tmod_ok _ _ (by decide) (by decide)⟩
 ·intro n h;simp only[someF,List.mem_filterMap,List.mem_range,badF]at h;obtain⟨i,hi,h⟩:=h;split at h
  ·simp only[Option.some.injEq]at h;subst h;unfold i64;omega
  ·simp at h
 ·intro w h;simp only[someF,List.mem_map,List.mem_range]at h;obtain⟨i,hi,rfl⟩:=h;exact⟨wrap_ok _,by simp[ownF,i64],o 8 3 (by decide) (by decide)⟩
 ·intro w h;simp only[someF,List.mem_filterMap,List.mem_range,licF]at h;obtain⟨i,hi,h⟩:=h;split at h
  ·simp only[Option.some.injEq]at h;subst h;exact⟨wrap_ok _,wrap_ok _,o (9+i) 1000 (by decide) (by decide),wrap_ok _⟩
  ·simp at h
 ·simp only[someF,List.length_map,List.length_range];exact hc
 ·have:=List.length_filterMap_le (badF l) (List.range (claimsF l).length);simp only[someF];rw[List.length_range]at this;omega
 ·simp only[someF,List.length_map,List.length_range];omega
 ·have:=List.length_filterMap_le (licF l) (List.range (pickI l 8 3).toNat);simp only[someF];rw[List.length_range]at this;omega
theorem aroundI_nn (a n:Int) (ha:i64 a):0≤aroundI a n:=by
 unfold aroundI;unfold i64 at ha;split
 ·have e1:IntKind.i64.wrap (a+1)=a+1:=wrap_i64 (by omega) (by omega);have e2:IntKind.i64.wrap (0-(a+1))=0-(a+1):=wrap_i64 (by omega) (by omega);rw[e1,e2];exact Int.tmod_nonneg _ (by omega)
 ·exact Int.tmod_nonneg _ (by omega)
theorem pickI_nn (l:List Int) (hl:∀n∈l,i64 n) (i n:Int):0≤pickI l i n:=by
 unfold pickI;split
 ·omega
 ·split
  ·rename_i x hx;exact aroundI_nn x n (hl x (List.mem_of_getElem? hx))
  ·omega
def clsN (nc:Nat) (k:Int):List Int:=((List.range nc).filter λc=>(k.fdiv (2^(min c IntKind.i64.bits))).tmod 3==1).map λ(c:Nat)=>(c:Int)
def tabR:List (Int×Int):=[(0,1),(1,1),(1,2),(3,2),(2,1),(-1,1),(5,1),(7,3)]
def valG (l:List Int) (at_ i:Nat):Option Val:=
 let k:=pickI l ((at_+i:Nat):Int) 1048576
 if k.tmod 3=0 then (let r:=(tabR[(((IntKind.i64.wrap (k.tdiv 3)).tmod 8).toNat)]?).getD (0,1);some ⟨i,r.1,r.2⟩) else none
def valsG (l:List Int) (at_ n:Nat):List Val:=(List.range n).filterMap (valG l at_)
def partsG (f:Nat→Th×Nat) (len:Nat):Nat→Nat→List Th×Nat
 |0,at_=>([],at_)
 |n+1,at_=>if at_ <len then ((f at_).1::(partsG f len n (f at_).2).1,(partsG f len n (f at_).2).2) else ([],at_)
def thN (nc:Nat) (l:List Int):Nat→Nat→Th×Nat
 |0,at_=>(.mk (clsN nc (pickI l at_ 1048576)) (valsG l (at_+1) 3) [],at_+5)
 |d+1,at_=>(.mk (clsN nc (pickI l at_ 1048576)) (valsG l (at_+1) 3) (partsG (thN nc l d) l.length (pickI l ((at_+4:Nat):Int) 4).toNat (at_+5)).1,(partsG (thN nc l d) l.length (pickI l ((at_+4:Nat):Int) 4).toNat (at_+5)).2)
theorem partsG_at (f:Nat→Th×Nat) (len B:Nat) (hf:∀a,(f a).2≤a+B):∀n at_,(partsG f len n at_).2≤at_+n*B
 |0,at_=>by simp[partsG]
 |n+1,at_=>by
  rw[partsG];split
  ·have h1:=partsG_at f len B hf n (f at_).2;have h2:=hf at_;rw[Nat.succ_mul];simp only;omega
  ·simp
theorem many4 (l:List Int) (i:Int):(pickI l i 4).toNat≤3:=by
 have:=pickI_b l i 4 (by decide);omega
theorem thN_at (nc:Nat) (l:List Int):∀d at_,(thN nc l d at_).2≤at_+5*4^d
 |0,at_=>by simp[thN]
 |d+1,at_=>by
  have h:=partsG_at (thN nc l d) l.length _ (thN_at nc l d) (pickI l ((at_+4:Nat):Int) 4).toNat (at_+5);have h2:=many4 l ((at_+4:Nat):Int);have h3:(pickI l ((at_+4:Nat):Int) 4).toNat*(5*4^d)≤3*(5*4^d):=Nat.mul_le_mul_right _ h2;have h4:1≤4^d:=Nat.one_le_pow _ _ (by decide);rw[thN,Nat.pow_succ];simp only;omega
def pgG (f:Nat→Th×Nat) (len:Nat) (dd:Int) (n at_:Nat):List Th×Nat:=if 1 <dd then partsG f len n at_ else ([],at_)
set_option maxRecDepth 100000 in
theorem l60p (nc:Nat) (l:List Int) (f:Nat→Th×Nat) (dd:Int) (hdd:1≤dd∧dd≤9) (hB:∀a,(f a).2≤a+100) (M:Nat) (hM:M≤10000) (hf:1 <dd→∀a,a≤M+500→PSp Tryz.prog GLx 27 [nums .i64 l,.int .i64 a,.int .i64 nc,.int .i64 (dd-1)] [(f a).1.V,.int .i64 (f a).2])
  (many at_:Nat) (hm:many≤3) (ha:at_≤M+5) (R0:Row) (C W:D) (J0:List Row) (Q:AExit→St→Prop) (res:List Th×Nat) (hres:pgG f l.length dd many at_=res)
  (hQ:∀e J,find e 8= .ref 0 0→find e 10= .ref 1 0→find e 1= .v (.int .i64 res.2)→Q (.exit 4) ⟨e,R0:: .cells [C,W,.own 47 3 (res.1.map Th.V)]::J⟩):
  awp Tryz.prog GLx (.loop (lG 27 2)) Q ⟨[(0,.v (nums .i64 l)),(1,.v (.int .i64 at_)),(2,.v (.int .i64 nc)),(3,.v (.int .i64 dd)),(8,.ref 0 0),(10,.ref 1 0),(16,.v (.int .i64 many)),(17,.v (.int .i64 (0:Nat)))],R0:: .cells [C,W,.own 47 3 []]::J0⟩:=by
 refine awp_loop_I many (λk s=>∃(J:List Row) (a:Nat) (done:List Th),s=⟨[(0,.v (nums .i64 l)),(1,.v (.int .i64 a)),(2,.v (.int .i64 nc)),(3,.v (.int .i64 dd)),(8,.ref 0 0),(10,.ref 1 0),(16,.v (.int .i64 many)),(17,.v (.int .i64 k))],
   R0:: .cells [C,W,.own 47 3 (done.map Th.V)]::J⟩∧a≤M+5+100*k∧done.length≤k∧(done++(pgG f l.length dd (many-k) a).1,(pgG f l.length dd (many-k) a).2)=res) ⟨J0,at_,[],by simp,by omega,by simp,by simpa using hres⟩ ?_
 rintro k s hk ⟨J,a,done,rfl,ha,hd,hr⟩;have w1:IntKind.i64.wrap (dd-1)=dd-1:=wrap_i64 (by omega) (by omega);have w2:IntKind.i64.wrap ((k:Int)+1)=k+1:=wrap_i64 (by omega) (by omega);have hstop:pgG f l.length dd (many-k) a=([],a)→Q (.exit 4) ⟨[(0,.v (nums .i64 l)),(1,.v (.int .i64 a)),(2,.v (.int .i64 nc)),(3,.v (.int .i64 dd)),(8,.ref 0 0),(10,.ref 1 0),(16,.v (.int .i64 many)),(17,.v (.int .i64 k)),(95,.v (.bool false))],
   R0:: .cells [C,W,.own 47 3 (done.map Th.V)]::J⟩:=by
  intro h0;rw[h0]at hr;simp only[List.append_nil]at hr;subst hr;exact hQ _ J rfl rfl rfl
 simp only[Zgl 27 2,awp_seq,awp_reg,awp_block,awp_cond,Zge 27 20];simp[nums]at hstop ⊢;by_cases h1:k <many
 ·have h1':(k:Int) <many:=by omega
  have e1:many-k=(many-(k+1))+1:=by omega
  by_cases h2:1 <dd
  ·by_cases h3:a <l.length
   ·have h3':(a:Int) <l.length:=by omega
    have q:=(hf h2 a (by omega)).fsp;have hb:=hB a;have hroom:roomy (done.length+1) 72=true:=by simp[roomy];omega
    rw[e1,pgG,if_pos h2,partsG,if_pos h3]at hr;generalize (f a).2=a2 at*;generalize (f a).1=p at*;obtain⟨pc,pv,pp⟩:=p;simp[nums,Th.V_eq]at q;simp[h1,h2,h3,awp_skip];simp only[Zge 27 22];simp[w1];refine⟨_,_,q _,?_⟩;simp[putL];simp only[Zge 27 23,Zge 27 24,Zge 27 21];simp[hroom,w2];refine⟨_,a2,done++[Th.mk pc pv pp],⟨rfl,by simp[Th.V_eq,nums],rfl⟩,by omega,by simp;omega,?_⟩;rw[←hr,pgG,if_pos h2];simp
   ·have h0:pgG f l.length dd (many-k) a=([],a):=by rw[e1,pgG,if_pos h2,partsG,if_neg h3]
    simp[h1,h2,h3,awp_exit];exact hstop h0
  ·have h0:pgG f l.length dd (many-k) a=([],a):=by rw[pgG,if_neg h2]
   simp[h1,h2,awp_exit];exact hstop h0
 ·have h0:pgG f l.length dd (many-k) a=([],a):=by
   rw[show many-k=0 by omega,pgG];split<;>simp[partsG]
  simp[h1,awp_exit];exact⟨by omega,hstop h0⟩
set_option maxRecDepth 100000 in
set_option maxHeartbeats 2000000 in
theorem l60v (l:List Int) (hl:∀n∈l,i64 n) (at_:Nat) (ha:at_≤20000) (x2 x3:V) (R0:Row) (C:D) (J0:List Row) (Q:AExit→St→Prop)
  (hQ:∀J,Q (.exit 2) ⟨[(0,.v (nums .i64 l)),(1,.v (.int .i64 (at_+3:Nat))),(2,.v x2),(3,.v x3),(8,.ref 0 0),(10,.ref 1 0),(13,.v (.int .i64 3)),(45,.v (.bool false))],R0:: .cells [C,.own 97 3 ((valsG l at_ 3).map Val.V),.own 47 3 []]::J⟩):
  awp Tryz.prog GLx (.loop (lG 27 1)) Q ⟨[(0,.v (nums .i64 l)),(1,.v (.int .i64 at_)),(2,.v x2),(3,.v x3),(8,.ref 0 0),(10,.ref 1 0),(13,.v (.int .i64 (0:Nat)))],R0:: .cells [C,.own 97 3 [],.own 47 3 []]::J0⟩:=by
 refine awp_loop_I 3 (λk s=>∃J:List Row,s=⟨[(0,.v (nums .i64 l)),(1,.v (.int .i64 (at_+k:Nat))),(2,.v x2),(3,.v x3),(8,.ref 0 0),(10,.ref 1 0),(13,.v (.int .i64 k))],R0:: .cells [C,.own 97 3 ((valsG l at_ k).map Val.V),.own 47 3 []]::J⟩) ⟨J0,by simp[valsG]⟩ ?_;rintro k s hk ⟨J,rfl⟩;simp only[Zgl 27 1,awp_seq,awp_reg,awp_block,awp_cond,Zge 27 10];simp[nums];by_cases h1:k <3
 ·have h1':(k:Int) <3:=by omega
  have w1:IntKind.i64.wrap ((k:Int)+1)=k+1:=wrap_i64 (by omega) (by omega);have w2:IntKind.i64.wrap (((at_:Int)+k)+1)=at_+(k+1):=by rw[wrap_i64 (by omega) (by omega)];omega
  have q:=(p47 l ((at_+k:Nat):Int) 1048576 (by decide)).fsp;have hnn:=pickI_nn l hl ((at_+k:Nat):Int) 1048576;have hs:valsG l at_ (k+1)=valsG l at_ k++(match valG l at_ k with|some x=>[x]|none=>[]):=by
   unfold valsG;rw[List.range_succ,List.filterMap_append]
   congr 1
   simp only[List.filterMap_cons,List.filterMap_nil];cases valG l at_ k<;>rfl
  have hlen:(valsG l at_ k).length≤k:=by
   have:=List.length_filterMap_le (valG l at_) (List.range k);simpa[valsG]using this
  have hroom:roomy ((valsG l at_ k).length+1) 24=true:=by simp[roomy];omega
  rw[hs];unfold valG;simp only;generalize valsG l at_ k=L at*;have hle:=pickI_b l ((at_+k:Nat):Int) 1048576 (by decide);generalize pickI l ((at_+k:Nat):Int) 1048576=n at*;have hq1:0≤n.tdiv 3:=Int.tdiv_nonneg hnn (by decide);have hq2:n.tdiv 3≤n:=Int.tdiv_le_self _ hnn;have w3:IntKind.i64.wrap (n.tdiv 3)=n.tdiv 3:=wrap_i64 (by omega) (by omega);rw[w3];have hm0:0≤(n.tdiv 3).tmod 8:=Int.tmod_nonneg _ hq1;have hm1:(n.tdiv 3).tmod 8 <8:=Int.tmod_lt_of_pos _ (by decide);simp[nums]at q;simp[h1',awp_skip];simp only[Zge 27 12];simp;refine⟨_,_,q _,?_⟩;simp only[Zge 27 13];by_cases h3:n.tmod 3=0
  ·have:(n.tdiv 3).tmod 8=0∨(n.tdiv 3).tmod 8=1∨(n.tdiv 3).tmod 8=2∨(n.tdiv 3).tmod 8=3∨(n.tdiv 3).tmod 8=4∨(n.tdiv 3).tmod 8=5∨(n.tdiv 3).tmod 8=6∨(n.tdiv 3).tmod 8=7:=by omega
   rcases this with e|e|e|e|e|e|e|e<;>
    simp[h3,Zge 27 14,w3,e,V.getI,putL,Zge 27 15,Zge 27 16,Zge 27 11,hroom,w1,w2,h1,tabR,Val.V]
  ·simp[h3,Zge 27 16,Zge 27 11,w1,w2,h1]
 ·have hk3:k=3:=by omega
  subst hk3;simp[awp_exit];have:=hQ J;simpa[nums]using this
set_option maxRecDepth 100000 in
theorem l60c (nc:Nat) (hnc:nc≤20) (n:Int) (d0 d1 d3:V) (R0:Row) (Q:AExit→St→Prop)
  (hQ:Q (.exit 0) ⟨[(0,.v d0),(1,.v d1),(2,.v (.int .i64 nc)),(3,.v d3),(8,.ref 0 0),(10,.ref 1 0),(11,.v (.int .i64 n)),(12,.v (.int .i64 nc)),(28,.v (.bool false))],[R0,.cells [.own 3 1 ((clsN nc n).map (.int .i64)),.own 97 3 [],.own 47 3 []]]⟩):
  awp Tryz.prog GLx (.loop (lG 27 0)) Q ⟨[(0,.v d0),(1,.v d1),(2,.v (.int .i64 nc)),(3,.v d3),(8,.ref 0 0),(10,.ref 1 0),(11,.v (.int .i64 n)),(12,.v (.int .i64 (0:Nat)))],[R0,.cells [.own 3 1 [],.own 97 3 [],.own 47 3 []]]⟩:=by
 refine awp_loop_nat0 nc (λk=>⟨[(0,.v d0),(1,.v d1),(2,.v (.int .i64 nc)),(3,.v d3),(8,.ref 0 0),(10,.ref 1 0),(11,.v (.int .i64 n)),(12,.v (.int .i64 k))],
  [R0,.cells [.own 3 1 ((((List.range k).filter λc=>(n.fdiv (2^(min c IntKind.i64.bits))).tmod 3==1).map λ(c:Nat)=>(c:Int)).map (.int .i64)),.own 97 3 [],.own 47 3 []]]⟩) (by simp) ?_
 intro k hk;simp only[Zgl 27 0,awp_seq,awp_reg,awp_block,awp_cond,Zge 27 5];simp;by_cases h1:k <nc
 ·have h1':(k:Int) <nc:=by omega
  have w1:IntKind.i64.wrap ((k:Int)+1)=k+1:=wrap_i64 (by omega) (by omega);have t1:(k:Int).tmod 20=k:=Int.tmod_eq_of_lt (by omega) (by omega);have w2:IntKind.u64.wrap (k:Int)=k:=wrap_u64 (by omega) (by omega);have hs:(List.range (k+1)).filter (λc=>(n.fdiv (2^(min c IntKind.i64.bits))).tmod 3==1)=(List.range k).filter (λc=>(n.fdiv (2^(min c IntKind.i64.bits))).tmod 3==1)++(if (n.fdiv (2^(min k IntKind.i64.bits))).tmod 3==1 then [k] else []):=by
   rw[List.range_succ,List.filter_append];simp only[List.filter_cons,List.filter_nil]
  have hlen:((List.range k).filter (λc=>(n.fdiv (2^(min c IntKind.i64.bits))).tmod 3==1)).length≤k:=by
   have:=List.length_filter_le (λc=>(n.fdiv (2^(min c IntKind.i64.bits))).tmod 3==1) (List.range k);simpa using this
  rw[hs];generalize (List.range k).filter (λc=>(n.fdiv (2^(min c IntKind.i64.bits))).tmod 3==1)=L at*;have hroom:roomy (L.length+1) 8=true:=by simp[roomy];omega
  simp[h1',awp_skip];simp only[Zge 27 7];simp[t1,w2];by_cases h2:(n.fdiv (2^(min k IntKind.i64.bits))).tmod 3=1
  ·simp[h2,Zge 27 8,hroom,Zge 27 6,w1,h1]
  ·simp[h2,Zge 27 6,w1,h1]
 ·have hk6:k=nc:=by omega
  subst hk6;simp[awp_exit];simpa[clsN]using hQ
set_option maxRecDepth 100000 in
theorem p60g (nc:Nat) (hnc:nc≤20) (l:List Int) (hl:∀n∈l,i64 n) (f:Nat→Th×Nat) (dd:Int) (hdd:1≤dd∧dd≤9) (hB:∀a,(f a).2≤a+100) (M:Nat) (hM:M≤10000) (hf:1 <dd→∀a,a≤M+500→PSp Tryz.prog GLx 27 [nums .i64 l,.int .i64 a,.int .i64 nc,.int .i64 (dd-1)] [(f a).1.V,.int .i64 (f a).2])
  (at_:Nat) (ha:at_≤M) (res:List Th×Nat) (hres:pgG f l.length dd (pickI l ((at_+4:Nat):Int) 4).toNat (at_+5)=res):
  PSp Tryz.prog GLx 27 [nums .i64 l,.int .i64 at_,.int .i64 nc,.int .i64 dd] [(Th.mk (clsN nc (pickI l at_ 1048576)) (valsG l (at_+1) 3) res.1).V,.int .i64 res.2]:=by
 refine psp_of_awp (Zkk 27) rfl ?_;have q1:=(p47 l at_ 1048576 (by decide)).fsp;have q2:=(p47 l ((at_+4:Nat):Int) 4 (by decide)).fsp;have hnn:=pickI_nn l hl ((at_+4:Nat):Int) 4;have hm4:=many4 l ((at_+4:Nat):Int);have hm:((pickI l ((at_+4:Nat):Int) 4).toNat:Int)=pickI l ((at_+4:Nat):Int) 4:=Int.toNat_of_nonneg hnn;have w1:IntKind.i64.wrap ((at_:Int)+1)=(at_+1:Nat):=by rw[wrap_i64 (by omega) (by omega)];omega
 have w2:IntKind.i64.wrap ((at_:Int)+1+3+1)=(at_+5:Nat):=by rw[wrap_i64 (by omega) (by omega)];omega
 have hc:=λR0 Q=>l60c nc hnc (pickI l at_ 1048576) (nums .i64 l) (.int .i64 (at_+1:Nat)) (.int .i64 dd) R0 Q;have hv:=λR0 C J Q=>l60v l hl (at_+1) (by omega) (.int .i64 nc) (.int .i64 dd) R0 C J Q;have hp:=λR0 C W J Q=>l60p nc l f dd hdd hB M hM hf (pickI l ((at_+4:Nat):Int) 4).toNat (at_+5) hm4 (by omega) R0 C W J Q res hres;rw[hm]at hp;generalize clsN nc (pickI l at_ 1048576)=C at*;generalize pickI l ((at_+4:Nat):Int) 4=many at*;generalize pickI l at_ 1048576=n at*;generalize valsG l (at_+1) 3=W at*;simp[nums]at q1 q2 hc hv hp;simp only[Zga 27,awp_seq,awp_reg,awp_block,Zge 27 0,Zge 27 1,Zge 27 2,entry];simp[nums,putL];refine⟨_,_,q1 _,?_⟩;simp[Zge 27 3,Zge 27 4,w1];refine hc _ _ ?_;simp[Zge 27 9];refine hv _ _ _ _ ?_;intro J;simp[Zge 27 17];have e4:((at_:Int)+1+3)=(at_:Int)+4:=by omega
 rw[e4];refine⟨_,_,q2 _,?_⟩;simp[Zge 27 18,Zge 27 19];rw[e4]at w2;simp at w2;rw[w2];refine hp _ _ _ _ _ ?_;intro e J' h8 h10 h1;simp[Zge 27 25,h8,h10,h1,putL,awp_ret,Zgr 27,Th.V_eq,nums,D.vs?,D.v?]
theorem thN_B (nc:Nat) (l:List Int) (d:Nat) (hd:d≤2) (a:Nat):(thN nc l d a).2≤a+100:=by
 have:=thN_at nc l d a;have h2:4^d≤4^2:=Nat.pow_le_pow_right (by decide) hd;have h3:(4:Nat)^2=16:=by decide
 omega
theorem p60_0 (nc:Nat) (hnc:nc≤20) (l:List Int) (hl:∀n∈l,i64 n) (at_:Nat) (ha:at_≤1500):PSp Tryz.prog GLx 27 [nums .i64 l,.int .i64 at_,.int .i64 nc,.int .i64 1] [(thN nc l 0 at_).1.V,.int .i64 (thN nc l 0 at_).2]:=
 p60g nc hnc l hl (thN nc l 0) 1 (by decide) (thN_B nc l 0 (by decide)) 1500 (by decide) (λh=>by omega) at_ ha ([],at_+5) (by rw[pgG,if_neg (by decide)])
theorem p60_1 (nc:Nat) (hnc:nc≤20) (l:List Int) (hl:∀n∈l,i64 n) (at_:Nat) (ha:at_≤1000):PSp Tryz.prog GLx 27 [nums .i64 l,.int .i64 at_,.int .i64 nc,.int .i64 2] [(thN nc l 1 at_).1.V,.int .i64 (thN nc l 1 at_).2]:=
 p60g nc hnc l hl (thN nc l 0) 2 (by decide) (thN_B nc l 0 (by decide)) 1000 (by decide) (λ_ a h=>p60_0 nc hnc l hl a h) at_ ha _ (by rw[pgG,if_pos (by decide)])
theorem p60_2 (nc:Nat) (hnc:nc≤20) (l:List Int) (hl:∀n∈l,i64 n) (at_:Nat) (ha:at_≤500):PSp Tryz.prog GLx 27 [nums .i64 l,.int .i64 at_,.int .i64 nc,.int .i64 3] [(thN nc l 2 at_).1.V,.int .i64 (thN nc l 2 at_).2]:=
 p60g nc hnc l hl (thN nc l 1) 3 (by decide) (thN_B nc l 1 (by decide)) 500 (by decide) (λ_ a h=>p60_1 nc hnc l hl a h) at_ ha _ (by rw[pgG,if_pos (by decide)])
def thingN (nc d:Nat) (l:List Int):Th:=(thN nc l d 0).1
theorem p21g (nc d:Nat) (dd:Int) (l:List Int) (q:PSp Tryz.prog GLx 27 [nums .i64 l,.int .i64 (0:Nat),.int .i64 nc,.int .i64 dd] [(thN nc l d 0).1.V,.int .i64 (thN nc l d 0).2]):
  PSp Tryz.prog GLx 11 [nums .i64 l,.int .i64 nc,.int .i64 dd] [(thingN nc d l).V]:=by
 refine psp_of_awp (Zkk 11) rfl ?_;have q:=q.fsp;unfold thingN;generalize (thN nc l d 0).2=m at*;generalize (thN nc l d 0).1=t at*;obtain⟨cs,vs,ps⟩:=t;simp[nums,Th.V_eq]at q;simp only[Zga 11,awp_seq,awp_reg,Zge 11 0,Zge 11 1,entry];simp[nums,Th.V_eq];refine⟨_,_,q _,?_⟩;simp[putL,Zge 11 2,awp_ret,Zgr 11,D.vs?,D.v?]
theorem p21 (l:List Int) (hl:∀n∈l,i64 n):PSp Tryz.prog GLx 11 [nums .i64 l,.int .i64 6,.int .i64 3] [(thingN 6 2 l).V]:=p21g 6 2 3 l (p60_2 6 (by decide) l hl 0 (by decide))
theorem p21b (l:List Int) (hl:∀n∈l,i64 n):PSp Tryz.prog GLx 11 [nums .i64 l,.int .i64 8,.int .i64 2] [(thingN 8 1 l).V]:=p21g 8 1 2 l (p60_1 8 (by decide) l hl 0 (by decide))
theorem vs_mapT:∀l:List V,D.vs? (l.map D.v)=some l
 |[]=>rfl
 |x::l=>by
  have:=vs_mapT l;simp only[List.map_cons,D.vs?,D.v?,this]
def Pr0:Prims:=λ_ _ _=>none
def par6:List (List Int):=[[],[0],[0],[1,2],[],[4]]
theorem p120a:∀ps∈par6,PSp Tryz.prog GLx 44 [.int .i64 6,nums .i64 ps] [.bool true]:=by
 intro ps hps;simp only[par6,List.mem_cons,List.not_mem_nil,or_false]at hps;rcases hps with rfl|rfl|rfl|rfl|rfl|rfl
 all_goals exact psp_of_ev (Pr:=Pr0) (fuel:=100) Tb_ok (λf args h x hx=>by cases hx) (by kernel_rfl)
theorem p121a:∀ps∈par6,PSp Tryz.prog GLx 45 [nums .i64 ps] [.bool true]:=by
 intro ps hps;simp only[par6,List.mem_cons,List.not_mem_nil,or_false]at hps;rcases hps with rfl|rfl|rfl|rfl|rfl|rfl
 all_goals exact psp_of_ev (Pr:=Pr0) (fuel:=100) Tb_ok (λf args h x hx=>by cases hx) (by kernel_rfl)
theorem p122a:∀ps∈par6,PSp Tryz.prog GLx 46 [nums .i64 ps] [nums .i64 ps]:=by
 intro ps hps;simp only[par6,List.mem_cons,List.not_mem_nil,or_false]at hps;rcases hps with rfl|rfl|rfl|rfl|rfl|rfl
 all_goals exact psp_of_ev (Pr:=Pr0) (fuel:=100) Tb_ok (λf args h x hx=>by cases hx) (by kernel_rfl)
abbrev bv (b:Bool):D:= .v (.bool b)
def parD:D:= .own 22 1 (par6.map (nums .i64))
def txR (bs:List Bool):Row:= .cells (parD::bs.map bv)
def rowsF (bs dn op:List Bool):List Row:=[txR bs,.cells [.ref 0 0],.cells (dn.map bv),.cells (op.map bv),.cells [.sref 2 6],.cells [.sref 3 6],.cells [.func 90 [.ref 4 0,.ref 5 0,.ref 1 0,.ref 6 0]]]
def inJ (i:Nat) (src:List Bool):Nat→List Bool→List Bool
 |0,bs=>bs
 |j+1,bs=>(inJ i src j bs).set (i*64+j) ((inJ i src j bs).getD (i*64+j) false||src.getD j false)
theorem inJ_len (i:Nat) (src:List Bool) (bs:List Bool):∀j,(inJ i src j bs).length=bs.length
 |0=>rfl
 |j+1=>by rw[inJ,List.length_set,inJ_len i src bs j]
def upP (i:Nat) (bs:List Bool) (p:Nat):List Bool:=inJ i ((bs.drop (p*64)).take 64) 64 bs
set_option maxRecDepth 100000 in
theorem l211 (i:Nat) (hi:i <6) (bs dn op src:List Bool) (hbs:bs.length=4096) (hs:src.length=64) (d41 d42 d43:D):
  awp Tryz.prog GLx (.loop (lG 90 1)) (λe s=>e= .exit 2∧find s.e 0= .v (.int .i64 i)∧find s.e 1= .ref 4 0∧find s.e 3= .ref 1 0∧find s.e 4= .ref 6 0∧find s.e 41=d41∧find s.e 42=d42∧find s.e 43=d43∧s.h=rowsF (inJ i src 64 bs) dn op)
   ⟨[(0,.v (.int .i64 i)),(1,.ref 4 0),(3,.ref 1 0),(4,.ref 6 0),(41,d41),(42,d42),(43,d43),(56,.agg (src.map bv)),(57,.v (.int .i64 0))],rowsF bs dn op⟩:=by
 refine awp_loop_nat0 64 (λj=>⟨[(0,.v (.int .i64 i)),(1,.ref 4 0),(3,.ref 1 0),(4,.ref 6 0),(41,d41),(42,d42),(43,d43),(56,.agg (src.map bv)),(57,.v (.int .i64 j))],rowsF (inJ i src j bs) dn op⟩) (by simp[inJ]) ?_;intro j hj;simp only[Zgl 90 1,awp_seq,awp_reg,awp_block,awp_cond,Zge 90 11];simp;by_cases hlt:j <64
 ·have hw:IntKind.i64.wrap ((j:Int)+1)=j+1:=wrap_i64 (by omega) (by omega);have hnext:inJ i src (j+1) bs=(inJ i src j bs).set (i*64+j) ((inJ i src j bs).getD (i*64+j) false||src.getD j false):=rfl
  have hbl:=inJ_len i src bs j;rw[hnext];generalize inJ i src j bs=B at*;obtain⟨b,hb⟩:∃b,B[i*64+j]?=some b:=⟨_,List.getElem?_eq_getElem (by omega)⟩;obtain⟨c,hc⟩:∃c,src[j]?=some c:=⟨_,List.getElem?_eq_getElem (by omega)⟩;have hbD:B.getD (i*64+j) false=b:=by rw[List.getD_eq_getElem?_getD,hb];rfl
  have hcD:src.getD j false=c:=by rw[List.getD_eq_getElem?_getD,hc];rfl
  rw[hbD,hcD];obtain⟨ds,hds⟩:∃ds,parD::B.map bv=ds:=⟨_,rfl⟩;have hlen:ds.length=4097:=by rw[←hds];simp;omega
  have hld:ds[1+i*64+j]?=some (bv b):=by rw[←hds,show 1+i*64+j=(i*64+j)+1 by omega];simp[hb]
  have hput:∀v,putL ds (1+i*64+j) [bv v]=parD::(B.set (i*64+j) v).map bv:=by
   intro v;rw[←hds,show 1+i*64+j=(i*64+j)+1 by omega,putL];simp only[List.take_succ_cons,List.length_singleton,List.drop_succ_cons,List.map_set,List.cons_append];rw[List.set_eq_take_append_cons_drop,if_pos (by simp;omega)];simp
  have hlt2:(i:Int) <64:=by omega
  have hj2:(j:Int) <64:=by omega
  have hle:1+i*64+j+1≤4097:=by omega
  rw[if_pos (by omega),awp_skip];simp only[Zge 90 12,rowsF,txR,hds];have hj63:j≤63:=by omega
  simp[hs,hc,hj63,awp_regD,Zge 90 13];simp[hlen,hld,hlt2,hj2,hlt,hle];cases b with
  |false=>
   simp[hput,Zge 90 14,hw]
  |true=>
   simp[hput,Zge 90 14,hw]
 ·have:j=64:=by omega
  subst this;rw[if_neg (by omega),awp_exit];simp
theorem take_snocF {α:Type} {l:List α} {k:Nat} {x:α} (h:l[k]?=some x):l.take (k+1)=l.take k++[x]:=by rw[List.take_add_one,h];rfl
def tfs (i:Nat):List Bool:=(List.range 6).map λj=>decide (j <i)
def parI (i:Nat):List Int:=par6.getD i []
def fillB (i:Nat) (bs:List Bool):List Bool:=(parI i).foldl (λb p=>upP i b p.toNat) (bs.set (i*64+i) true)
theorem upP_len (i:Nat) (bs:List Bool) (p:Nat):(upP i bs p).length=bs.length:=inJ_len _ _ _ _
theorem fold_len (i:Nat):∀(ps:List Int) (bs:List Bool),(ps.foldl (λb p=>upP i b p.toNat) bs).length=bs.length
 |[],_=>rfl
 |p::ps,bs=>by rw[List.foldl_cons,fold_len i ps,upP_len]
theorem fillB_len (i:Nat) (bs:List Bool):(fillB i bs).length=bs.length:=by rw[fillB,fold_len,List.length_set]
theorem tfs_len (i:Nat):(tfs i).length=6:=by simp[tfs]
theorem tfs_get (i p:Nat) (hp:p <6):(tfs i)[p]?=some (decide (p <i)):=by simp[tfs,hp]
theorem tfs_set (i:Nat) (hi:i <6):(tfs i).set i true=tfs (i+1):=by
 have:∀i <6,(tfs i).set i true=tfs (i+1):=by decide
 exact this i hi
theorem put_map (l:List Bool) (i:Nat) (v:Bool) (hi:i <l.length):putL (l.map bv) i [bv v]=(l.set i v).map bv:=by
 rw[putL,List.map_set,List.set_eq_take_append_cons_drop,if_pos (by simpa using hi)];simp
theorem p211a (bs op:List Bool) (i p:Nat) (hp:p <i) (hi:i≤6):FSp Tryz.prog GLx 90 [.v (.int .i64 p),.ref 4 0,.ref 5 0,.ref 1 0,.ref 6 0] (rowsF bs (tfs i) op) [.v (.bool true)] (rowsF bs (tfs i) op):=by
 refine fsp_of_awp (Zkk 90) rfl ?_;have hl:=tfs_len i;have hp6:p <6:=by omega
 have hd:(tfs i)[p]?=some true:=by rw[tfs_get i p hp6];simp[hp]
 have hp5:p≤5:=by omega
 have hp6':(p:Int) <6:=by omega
 generalize tfs i=dn at*;have hde:∀h,dn[p]'h=true:=λh=>(List.getElem?_eq_some_iff.1 hd).2;simp only[Zga 90,awp_seq,awp_reg,awp_cond,Zge 90 0,Zge 90 1,entryD,rowsF];simp[hp6,hp6',hp5,hde,hl,Zge 90 2,awp_ret,Zgr 90]
set_option maxRecDepth 100000 in
set_option maxHeartbeats 1000000 in
theorem l211o (i:Nat) (hi:i <6) (ps:List Int) (dn dn' B0:List Bool) (hB0:B0.length=4096) (hps:∀p∈ps,0≤p∧p.toNat <i) (hpn:ps.length≤2)
  (ha:∀bs (p:Nat),p <i→FSp Tryz.prog GLx 90 [.v (.int .i64 p),.ref 4 0,.ref 5 0,.ref 1 0,.ref 6 0] (rowsF bs dn dn') [.v (.bool true)] (rowsF bs dn dn')):
  awp Tryz.prog GLx (.loop (lG 90 0)) (λe s=>e= .exit 0∧find s.e 0= .v (.int .i64 i)∧find s.e 1= .ref 4 0∧s.h=rowsF (ps.foldl (λb p=>upP i b p.toNat) B0) dn dn')
   ⟨[(0,.v (.int .i64 i)),(1,.ref 4 0),(3,.ref 1 0),(4,.ref 6 0),(41,.v (nums .i64 ps)),(42,.v (.int .i64 ps.length)),(43,.v (.int .i64 0))],rowsF B0 dn dn'⟩:=by
 have fl:∀k,((ps.take k).foldl (λb p=>upP i b p.toNat) B0).length=4096:=by
  intro k;rw[fold_len,hB0]
 refine awp_loop_nat0 ps.length (λk=>⟨[(0,.v (.int .i64 i)),(1,.ref 4 0),(3,.ref 1 0),(4,.ref 6 0),(41,.v (nums .i64 ps)),(42,.v (.int .i64 ps.length)),(43,.v (.int .i64 k))],rowsF ((ps.take k).foldl (λb p=>upP i b p.toNat) B0) dn dn'⟩) (by simp) ?_;intro k hk;have hBl:=fl k;simp only[Zgl 90 0,awp_seq,awp_reg,awp_block,awp_cond,Zge 90 6];simp[nums];by_cases hlt:k <ps.length
 ·obtain⟨p,hpk⟩:∃p,ps[k]?=some p:=⟨_,List.getElem?_eq_getElem hlt⟩;have hw:IntKind.i64.wrap ((k:Int)+1)=k+1:=wrap_i64 (by omega) (by omega);obtain⟨hp0,hpi⟩:=hps p (List.mem_of_getElem? hpk);obtain⟨q,rfl⟩:∃q:Nat,p=q:=⟨p.toNat,by omega⟩;have hqi:q <i:=by omega
  have hsuc:(ps.take (k+1)).foldl (λb p=>upP i b p.toNat) B0=upP i ((ps.take k).foldl (λb p=>upP i b p.toNat) B0) q:=by
   rw[take_snocF hpk,List.foldl_append,List.foldl_cons,List.foldl_nil,Int.toNat_natCast]
  rw[hsuc];generalize (ps.take k).foldl (λb p=>upP i b p.toNat) B0=B at*;have hc:=ha B q hqi;have hq64:(q:Int) <64:=by omega
  have hq63:q≤63:=by omega
  have hsl:((B.drop (q*64)).take 64).length=64:=by rw[List.length_take,List.length_drop];omega
  have q2:=l211 i hi B dn dn' ((B.drop (q*64)).take 64) hBl hsl (.v (nums .i64 ps)) (.v (.int .i64 ps.length)) (.v (.int .i64 k));have hup:upP i B q=inJ i ((B.drop (q*64)).take 64) 64 B:=by rw[upP]
  rw[←hup]at q2;generalize upP i B q=NB at*;clear hup;have hld:List.take 64 (List.drop (q*64) (List.map bv B))=((B.drop (q*64)).take 64).map bv:=by rw[List.map_take,List.map_drop]
  have hcp:∀l:List Bool,List.map (D.copy ∘ bv) l=l.map bv:=λl=>by simp[Function.comp_def,D.copy]
  have hle:1+q*64≤4033:=by omega
  have hdr:∀(x:D) (l:List D),List.drop (1+q*64) (x::l)=List.drop (q*64) l:=λx l=>by rw[Nat.add_comm];rfl
  rw[if_pos (by omega),awp_skip];simp only[Zge 90 7];simp[hpk,Zge 90 8,rowsF];simp only[rowsF]at hc;refine⟨_,_,hc,?_⟩;simp[awp_skip,Zge 90 10,txR,hq64,hBl,hle,hdr,hcp];simp only[rowsF,txR,nums]at q2;simp only[List.map_take,List.map_drop]at q2;refine awp_mono _ ?_ q2;rintro e ⟨se,sh⟩ ⟨rfl,f0,f1,f3,f4,f41,f42,f43,hh⟩;simp only at f0 f1 f3 f4 f41 f42 f43 hh;subst hh;simp[Zge 90 15,f0,f1,f3,f4,f41,f42,f43,hw,hlt]
 ·have:k=ps.length:=by omega
  subst this;rw[if_neg (by omega),awp_exit];simp
set_option maxRecDepth 100000 in
theorem p211 (bs:List Bool) (i:Nat) (hi:i <6) (hbs:bs.length=4096):FSp Tryz.prog GLx 90 [.v (.int .i64 i),.ref 4 0,.ref 5 0,.ref 1 0,.ref 6 0] (rowsF bs (tfs i) (tfs i)) [.v (.bool true)] (rowsF (fillB i bs) (tfs (i+1)) (tfs (i+1))):=by
 refine fsp_of_awp (Zkk 90) rfl ?_;have hl:=tfs_len i;have hd:(tfs i)[i]?=some false:=by rw[tfs_get i i hi];simp
 have hi5:i≤5:=by omega
 have hi6':(i:Int) <6:=by omega
 have hset:=put_map (tfs i) i true (by omega);rw[tfs_set i hi]at hset;have ha:=λbs p hp=>p211a bs (tfs (i+1)) i p hp (by omega);have hpar:par6[i]?=some (parI i):=by
  have:∀i <6,par6[i]?=some (parI i):=by decide
  exact this i hi
 have hps:∀p∈parI i,0≤p∧p.toNat <i:=by
  have:∀i <6,∀p∈parI i,0≤p∧p.toNat <i:=by decide
  exact this i hi
 have hpn:(parI i).length≤2:=by
  have:∀i <6,(parI i).length≤2:=by decide
  exact this i hi
 have hres:fillB i bs=(parI i).foldl (λb p=>upP i b p.toNat) (bs.set (i*64+i) true):=rfl;generalize fillB i bs=FB at*;generalize parI i=ps at*;generalize tfs (i+1)=dn' at*;generalize tfs i=dn at*;have r0:putL (parD::bs.map bv) (1+i*64+i) [bv true]=parD::(bs.set (i*64+i) true).map bv:=by
  rw[show 1+i*64+i=(i*64+i)+1 by omega,putL];have:=put_map bs (i*64+i) true (by omega);rw[putL]at this;simpa using this
 have hi64:i≤63:=by omega
 have hi64':(i:Int) <64:=by omega
 have hle:1+i*64+i+1≤bs.length+1:=by omega
 simp only[Zga 90,awp_seq,awp_reg,awp_cond,Zge 90 0,Zge 90 1,entryD,rowsF];simp[hi5,hi6',hd,hl,awp_skip,Zge 90 3];simp[hset,Zge 90 4,txR,hi64',r0,hle];have hpl:par6.length=6:=rfl;simp[Zge 90 5,parD,hpar,nums];have q:=l211o i hi ps dn dn' (bs.set (i*64+i) true) (by rw[List.length_set,hbs]) hps hpn ha;rw[←hres]at q;simp[rowsF,txR,parD,nums]at q;simp only[awp_block];refine awp_mono _ ?_ q;rintro e ⟨se,sh⟩ ⟨rfl,f0,f1,hh⟩;simp only at f0 f1 hh;subst hh;simp[Zge 90 16,f0,f1,hi6',hi5,hl,hset,Zge 90 17,awp_ret,Zgr 90]
def c123A:AC:=match la 47 with| .seq _ (.seq a _)=>a|_=> .skip
def c123T:AC:=match la 47 with| .seq _ (.seq _ b)=>b|_=> .skip
theorem c123_eq:(gA 47)= .seq (.reg (oG 47 0) [1]) (.seq c123A c123T):=(Zga 47 :)
def tr123:AT:=match c123A with| .regA _ _ _ t=>t|_=> .done
def cl123:List (List Nat):=match c123A with| .regA _ _ c _=>c|_=>[]
theorem c123A_eq:c123A= .regA (oG 47 1) [1,3,4] cl123 tr123:=rfl
def os123 (rest:List D):Option (List St):=evT (ev Tb Pr0 4) [] (oG 47 1) tr123 ⟨[(1,.ref 1 0)],[.cells (parD::rest),.cells [.ref 0 0]]⟩
theorem os_eq (rest:List D):os123 rest=(os123 []).map (List.map λo=>⟨o.e,o.h.set 0 (.cells (parD::rest))⟩):=by kernel_rfl
def F6:Row:= .cells ((tfs 0).map bv)
def exp123:St:=⟨[(1,.ref 1 0),(3,.ref 4 0),(4,.ref 5 0)],[.cells [parD],.cells [.ref 0 0],F6,F6,.cells [.sref 2 6],.cells [.sref 3 6]]⟩
def pi123 (o:St):List (Nat×Nat):=
 match find o.e 3,find o.e 4 with
 | .ref a _,.ref b _=>match o.h[a]?,o.h[b]? with
  |some (.cells [.sref u _]),some (.cells [.sref v _])=>[(a,4),(b,5),(u,2),(v,3)]
  |_,_=>[]
 |_,_=>[]
def chk123 (o:St):Bool:=
 decide (o.h.length=6)&&permOK 2 6 (pi123 o)&&noObj o.h&&decide (rnm (flip (pi123 o)) 0=0)&&((List.range 6).all λi=>decide (i=0)|| !decide (rnm (flip (pi123 o)) i=0))&&
  endEq [1,3,4] (renSt (pi123 o) o) exp123
theorem os_chk:(match os123 []with|some os=>os.all chk123|none=>false)=true:=by kernel_rfl
theorem ren_bv (π:List (Nat×Nat)) (bs:List Bool):Row.ren π (.cells (parD::bs.map bv))= .cells (parD::bs.map bv):=by
 simp[Row.ren,rens_map,parD,D.ren,Function.comp_def]
theorem renRows_set (π:List (Nat×Nat)) (h:List Row) (X:Row) (hX:X.ren π=X) (hl:h.length=6) (h0:rnm (flip π) 0=0) (hi:∀i <6,i≠0→rnm (flip π) i≠0):renRows π (h.set 0 X)=(renRows π h).set 0 X:=by
 refine List.ext_getElem? λi=>?_;simp only[renRows,List.length_set,hl,List.getElem?_map];rcases Nat.lt_or_ge i 6 with hi6|hi6
 ·rw[List.getElem?_range hi6];by_cases hz:i=0
  ·subst hz;rw[List.getElem?_set_self (by simp)];simp only[Option.map_some,h0];rw[List.getElem?_set_self (by omega)];simp[hX]
  ·rw[List.getElem?_set_ne (Ne.symm hz),List.getElem?_map,List.getElem?_range hi6];simp only[Option.map_some];rw[List.getElem?_set_ne (Ne.symm (hi i hi6 hz))]
 ·rw[List.getElem?_eq_none (by simpa using hi6),List.getElem?_eq_none (by simpa using hi6)];rfl
theorem a123 (bs:List Bool) (Q:AExit→St→Prop)
  (hQ:Q .normal ⟨[(1,.ref 1 0),(3,.ref 4 0),(4,.ref 5 0)],[txR bs,.cells [.ref 0 0],F6,F6,.cells [.sref 2 6],.cells [.sref 3 6]]⟩):
  awp Tryz.prog GLx c123A Q ⟨[(1,.ref 1 0)],[txR bs,.cells [.ref 0 0]]⟩:=by
 rw[c123A_eq,awp_regA];obtain⟨os,h0⟩:∃os,os123 []=some os:=by
  have h:=os_chk;cases ho:os123 []with
  |none=>rw[ho]at h;cases h
  |some os=>exact⟨os,rfl⟩
 have hchk:=os_chk;rw[h0]at hchk;have he:=os_eq (bs.map bv);rw[h0,Option.map_some]at he;obtain⟨-,hall⟩:=evT_sound (P:=Tryz.prog) (GL:=GLx) (ev_snd Tb_ok (λf args h x hx=>by cases hx) 4) tr123 he ⟨λr hr=>by simp[Lp.has]at hr,by simp⟩;refine hall _ λo ho=>?_;obtain⟨o0,ho0,rfl⟩:=List.mem_map.1 ho;have hc:=(List.all_eq_true.1 hchk) o0 ho0;simp only[chk123,Bool.and_eq_true,decide_eq_true_eq]at hc;obtain⟨⟨⟨⟨⟨c1,c2⟩,c3⟩,c4⟩,c5⟩,c6⟩:=hc;obtain⟨e1,e2⟩:=endEq_eq c6;have hi:∀i <6,i≠0→rnm (flip (pi123 o0)) i≠0:=by
  intro i hi hz;have:=(List.all_eq_true.1 c5) i (List.mem_range.2 hi);simpa[hz]using this
 have hr:=renRows_set (pi123 o0) o0.h (.cells (parD::bs.map bv)) (ren_bv _ _) c1 c4 hi;simp only[renSt]at e1 e2;rw[e2]at hr;refine ren_leaf (K:=λs2=>Q .normal ⟨normE s2.e [1,3,4],s2.h⟩) (pi123 o0) ?_ ?_ ?_
 ·simpa[c1,Lp.ins]using c2
 ·simp only[noObj,List.all_eq_true,Lp.ins]at c3 ⊢;intro r hr;rcases List.mem_or_eq_of_mem_set hr with hr|rfl
  ·exact c3 r hr
  ·rfl
 ·simp only[Lp.ins];rw[hr,e1];exact hQ
def fillN:Nat→List Bool→List Bool
 |0,bs=>bs
 |i+1,bs=>fillB i (fillN i bs)
theorem fillN_len (bs:List Bool):∀i,(fillN i bs).length=bs.length
 |0=>rfl
 |i+1=>by rw[fillN,fillB_len,fillN_len bs i]
theorem c123T_eq:c123T=(.seq (.reg (oG 47 2) [1,3,4,5]) (.seq (.reg (oG 47 3) [1,5]) (.seq (.seq (.reg (oG 47 4) [5,24,25]) (.block 0 (.loop (lG 47 0)))) (.seq (.reg (oG 47 10) [2]) .ret)))):=rfl
theorem l123 (bs:List Bool) (hbs:bs.length=4096):
  awp Tryz.prog GLx (.loop (lG 47 0)) (λe s=>e= .exit 0∧s.h=rowsF (fillN 6 bs) (tfs 6) (tfs 6))
   ⟨[(5,.ref 6 0),(24,.v (.int .i64 6)),(25,.v (.int .i64 0))],rowsF bs (tfs 0) (tfs 0)⟩:=by
 refine awp_loop_nat0 6 (λi=>⟨[(5,.ref 6 0),(24,.v (.int .i64 6)),(25,.v (.int .i64 i))],rowsF (fillN i bs) (tfs i) (tfs i)⟩) (by simp[fillN]) ?_;intro i hi;simp only[Zgl 47 0,awp_seq,awp_reg,awp_block,awp_cond,Zge 47 5];simp;by_cases hlt:i <6
 ·have hw:IntKind.i64.wrap ((i:Int)+1)=i+1:=wrap_i64 (by omega) (by omega);have p1:=p211 (fillN i bs) i hlt (by rw[fillN_len,hbs]);have hn:fillN (i+1) bs=fillB i (fillN i bs):=rfl;rw[hn];generalize fillB i (fillN i bs)=B2 at*;generalize fillN i bs=B at*;generalize tfs (i+1)=t2 at*;generalize tfs i=t1 at*;rw[if_pos (by omega),awp_skip];simp only[Zge 47 6];simp[Zge 47 7,rowsF];simp only[rowsF]at p1;refine⟨_,_,p1,?_⟩;simp[awp_skip,Zge 47 9,hw];omega
 ·have:i=6:=by omega
  subst this;rw[if_neg (by omega),awp_exit];simp
theorem p123 (bs:List Bool) (hbs:bs.length=4096):FSp Tryz.prog GLx 47 [.ref 0 0] [txR bs] [.v (.bool true)] (rowsF (fillN 6 bs) (tfs 6) (tfs 6)):=by
 refine fsp_of_awp (Zkk 47) rfl ?_;have q:=l123 bs hbs;generalize rowsF (fillN 6 bs) (tfs 6) (tfs 6)=HH at*;rw[c123_eq];simp only[awp_seq,awp_reg,Zge 47 0,entryD];simp;refine a123 bs _ ?_;rw[c123T_eq];simp only[awp_seq,awp_reg,awp_block,Zge 47 2];simp[Zge 47 3,putL,txR,parD];simp[Zge 47 4,par6];simp only[rowsF,txR,parD,F6]at q ⊢;refine awp_mono _ ?_ q;rintro e ⟨se,sh⟩ ⟨rfl,hh⟩;simp only at hh;subst hh;simp[Zge 47 10,awp_ret,Zgr 47]
def Rgt.row (r:Rgt):Row:= .cells [.v (.int .i64 r.file),.v (.int .i64 r.state),.v (.int .i64 r.force),.v (.list (r.claims.map Clm.V)),.v (.list (r.dates.map Dat.V)),.v (nums .i64 r.bad),.v (.list (r.owners.map Own.V)),.v (.list (r.lics.map Lic.V))]
def parentsV:V:= .list [.list [],.list [.int .i64 0],.list [.int .i64 0],.list [.int .i64 1,.int .i64 2],.list [],.list [.int .i64 4]]
theorem p16:PSp Tryz.prog GLx 15 [] [parentsV]:=by
 refine psp_of_awp (Zkk 15) rfl ?_;simp[Zga 15,awp_seq,awp_reg,awp_ret,Zge 15 0,Zge 15 1,Zgr 15,entry,parentsV]
theorem map_take_succF {α:Type} {l:List α} {k:Nat} {x:α} (h:l[k]?=some x) (f:α→V):(l.map f).take (k+1)=(l.map f).take k++[f x]:=by
 rw[List.take_add_one,List.getElem?_map,h];rfl
theorem l46 (Z:List D):
  awp Tryz.prog GLx (.loop (lG 21 0)) (λe s=>e= .exit 0∧find s.e 5= .ref 0 0∧s.h=[.cells (.own 22 1 (par6.map (nums .i64))::Z)])
   ⟨[(4,.v (.int .i64 6)),(5,.ref 0 0),(14,.v (.list (par6.map (nums .i64)))),(15,.v (.int .i64 6)),(16,.v (.int .i64 0))],[.cells (.own 22 1 []::Z)]⟩:=by
 refine awp_loop_nat0 6 (λk=>⟨[(4,.v (.int .i64 6)),(5,.ref 0 0),(14,.v (.list (par6.map (nums .i64)))),(15,.v (.int .i64 6)),(16,.v (.int .i64 k))],[.cells (.own 22 1 ((par6.take k).map (nums .i64))::Z)]⟩) (by simp) ?_;intro k hk;simp only[Zgl 21 0,awp_seq,awp_reg,awp_block,awp_cond,Zge 21 6];simp;have hp6:par6.length=6:=rfl;by_cases hlt:k <6
 ·obtain⟨ps,hps⟩:∃ps,par6[k]?=some ps:=⟨_,List.getElem?_eq_getElem (by omega)⟩;have hmem:=List.mem_of_getElem? hps;have p1:=(p120a ps hmem).fsp;have p2:=(p121a ps hmem).fsp;have p3:=p122a ps hmem;have hw:IntKind.i64.wrap ((k:Int)+1)=k+1:=wrap_i64 (by omega) (by omega);have e:=map_take_succF hps (nums .i64);have hm:min k par6.length=k:=by omega
  have hroom:roomy (k+1) 24=true:=by simp[roomy];omega
  generalize par6=par at*;rw[if_pos (by omega),awp_skip];simp only[Zge 21 7];simp only[nums]at p1 p2 p3 e;simp at p1 p2;simp[hps,nums];simp only[Zge 21 8];simp;refine⟨_,_,(p1 _),?_⟩;simp;refine⟨_,_,(p2 _),?_⟩;simp[awp_skip,awp_regD,Zge 21 10];refine⟨_,_,⟨rfl,rfl⟩,_,p3,?_⟩;simp[hm,hroom,Zge 21 11,hw,hlt,e]
 ·have:k=6:=by omega
  subst this;rw[if_neg (by omega),awp_exit];have:(par6.map (nums .i64)).take 6=par6.map (nums .i64):=rfl;simp[this]
def zb:List Bool:=List.replicate 4096 false
def zD:List D:=List.replicate 4096 (.v (.bool false))
theorem zD_eq:zD=zb.map bv:=by rw[zD,zb,List.map_replicate]
theorem zD_row:zD.map D.toRow=zD:=by rw[zD,List.map_replicate];rfl
theorem zb_len:zb.length=4096:=by rw[zb,List.length_replicate]
def c46r4':List GI:=[⟨none,.p 12 (.build (.nil 22 1::zD) [])⟩,⟨none,.box 13 (.t 12 false)⟩,⟨none,.mv 5 (.t 13 false)⟩]
theorem c46r4_eq:(oG 21 4)=c46r4':=(Zge 21 4 :)
theorem p46:FSp Tryz.prog GLx 21 [.v (.list (par6.map (nums .i64)))] [] [.ref 0 0,.v (.int .i64 0)] (rowsF (fillN 6 zb) (tfs 6) (tfs 6)):=by
 refine fsp_of_awp (Zkk 21) rfl ?_;have q:=l46 zD;have q2:=p123 zb zb_len;rw[txR,←zD_eq,parD]at q2;generalize rowsF (fillN 6 zb) (tfs 6) (tfs 6)=HH at*;have hp6:par6.length=6:=rfl;have hz:=zD_row;simp only[Zga 21,awp_seq,awp_reg,awp_block,awp_cond,Zge 21 0,Zge 21 1,entryD];rw[c46r4_eq];unfold c46r4';generalize zD=Z at*;generalize par6=par at*;simp[hp6,Zge 21 2,awp_skip];simp[hz,Zge 21 5,hp6];refine awp_mono _ ?_ q;rintro e ⟨se,sh⟩ ⟨rfl,f5,hh⟩;simp only at f5 hh;subst hh;simp[Zge 21 12,f5];refine⟨_,_,q2,?_⟩;simp[Zge 21 14,awp_ret,Zgr 21,f5]
def taxR (ps:List V) (bs:List Bool):Row:= .cells (.own 22 1 ps::bs.map bv)
theorem p69 (ps:List V) (bs:List Bool) (h:List Row) (x:Nat) (hx:h[x]?=some (taxR ps bs)):FSp Tryz.prog GLx 41 [.ref x 0] h [.v (.int .i64 ps.length)] h:=by
 refine fsp_of_awp (Zkk 41) rfl ?_;simp[Zga 41,awp,Zge 41 0,Zge 41 1,Zgr 41,entryD,hx,taxR]
theorem p208 (c n:Int) (h:List Row) (q:Nat) (hq:h[q]?=some (.cells [.v (.int .i64 n)])):FSp Tryz.prog GLx 87 [.v (.int .i64 c),.ref q 0] h [.v (.bool (decide (c <0∨n≤c)))] h:=by
 refine fsp_of_awp (Zkk 87) rfl ?_;by_cases h1:c <0
 ·simp[Zga 87,awp,Zge 87 0,Zge 87 1,Zgr 87,entryD,h1]
 ·simp[Zga 87,awp,Zge 87 0,Zge 87 1,Zgr 87,entryD,hq,h1]
theorem p120 (n:Int) (l:List Int) (hn:l.length <2^40):PSp Tryz.prog GLx 44 [.int .i64 n,nums .i64 l] [.bool (l.all λc=>decide (0≤c∧c <n))]:=by
 refine psp_of_awp (Zkk 44) rfl ?_;have hidx:IdxR Tryz.prog GLx 87 [.ref 0 0] (l.map (V.int .i64)) [.cells [.v (.int .i64 n)]] (l.findIdx? λx=> !decide (0≤x∧x <n)) [.cells [.v (.int .i64 n)]]:=
  IdxR.map λx hx=>by
   have:=p208 x n [.cells [.v (.int .i64 n)]] 0 rfl;have e:(decide (x <0∨n≤x))= !decide (0≤x∧x <n):=by
    by_cases h1:x <0∨n≤x
    ·have h2:¬(0≤x∧x <n):=by omega
     rw[decide_eq_true h1,decide_eq_false h2];rfl
    ·have h2:0≤x∧x <n:=by omega
     rw[decide_eq_false h1,decide_eq_true h2];rfl
   rw[e]at this;exact this
 have hcf:=p151 (.func 87 [.ref 0 0]) 87 [.ref 0 0] (FV.r 87 0 0 []) (l.map (V.int .i64)) (by simpa using hn) (by
  intro x hx;obtain⟨y,_,rfl⟩:=List.mem_map.1 hx;exact⟨_,rfl⟩) hidx
 rw[all_idx]at hcf;simp only[Zga 44,awp_seq,awp_reg,Zge 44 0,Zge 44 1,entry];simp[nums]
 try simp at hcf
 refine⟨_,_,hcf,?_⟩;simp[awp_ret,Zgr 44,resVs]
def isTx (n:Nat) (bs:List Bool) (c d:Int):Bool:=decide (0≤c∧c <n)&&(decide (0≤d∧d <n)&&(bs[(c*64+d).toNat]?).getD false)
theorem p157 (ps:List V) (bs:List Bool) (hps:ps.length≤64) (hbs:bs.length=4096) (h:List Row) (x:Nat) (hx:h[x]?=some (taxR ps bs)) (c d:Int):
  FSp Tryz.prog GLx 82 [.ref x 0,.v (.int .i64 c),.v (.int .i64 d)] h [.v (.bool (isTx ps.length bs c d))] h:=by
 refine fsp_of_awp (Zkk 82) rfl ?_;have q1:=p69 ps bs h x hx;have q2:=(p120 ps.length [c,d] (by simp)).fsp;simp[nums]at q2;have hlen:(bs.map bv).length=4096:=by rw[List.length_map,hbs]
 simp only[Zga 82,awp_seq,awp_reg,Zge 82 0,entryD];simp;simp only[Zge 82 1];simp;refine⟨_,_,q1,?_⟩;simp;refine⟨_,_,q2 _,?_⟩;unfold isTx;by_cases h1:0≤c∧c <ps.length
 ·by_cases h2:0≤d∧d <ps.length
  ·have k1:c <64:=by omega
   have k2:d <64:=by omega
   have e1:(c*64+d).toNat=c.toNat*64+d.toNat:=by omega
   have e2:1+c.toNat*64+d.toNat=(c.toNat*64+d.toNat)+1:=by omega
   obtain⟨b,hb⟩:∃b,bs[c.toNat*64+d.toNat]?=some b:=⟨_,List.getElem?_eq_getElem (by rw[hbs];omega)⟩;have k3:1+c.toNat*64+d.toNat≤bs.length:=by rw[hbs];omega
   rw[e1,hb];simp[h1,h2,hx,taxR,k1,k2];rw[e2]at k3 ⊢;simp[hb,k3,bv,awp_ret,Zgr 82]
  ·have h3:0≤d→(ps.length:Int)≤d:=by omega
   simp[h1,h2,awp_ret,Zgr 82];exact h3
 ·simp[h1,awp_ret,Zgr 82]
def cmpOr (a b c d:Int):Int:=if okR a b&&okR c d then cmpR a b c d else 0
theorem p310 (a b c d:Int) (h1:i64 a) (h2:i64 b) (h3:i64 c) (h4:i64 d):PSp Tryz.prog GLx 169 [ratV a b,ratV c d] [.int .i64 (cmpOr a b c d)]:=by
 refine psp_of_awp (Zkk 169) rfl ?_;have q:=(p227 a b c d h1 h2 h3 h4).fsp;unfold cmpOr;cases hk:okR a b&&okR c d with
 |true=>
  rw[hk]at q;simp[ratV]at q;simp[Zga 169,awp,Zge 169 0,Zge 169 1,Zge 169 2,Zgr 169,entry,ratV];refine⟨_,_,q _,?_⟩;simp
 |false=>
  rw[hk]at q;simp[ratV]at q;simp[Zga 169,awp,Zge 169 0,Zge 169 1,Zge 169 2,Zgr 169,entry,ratV];refine⟨_,_,q _,?_⟩;simp
def hasI (x:Ivl) (n d:Int):Bool:=
 (x.li|| !(decide (cmpOr n d x.ln x.ld <0)||(decide (cmpOr n d x.ln x.ld=0)&&x.lo)))&&(x.hi|| !(decide (0 <cmpOr n d x.hn x.hd)||(decide (cmpOr n d x.hn x.hd=0)&&x.ho)))
theorem p259 (x:Ivl) (hx:x.ok) (n d:Int) (h1:i64 n) (h2:i64 d):PSp Tryz.prog GLx 130 [x.V,ratV n d] [.bool (hasI x n d)]:=by
 refine psp_of_awp (Zkk 130) rfl ?_;have q1:=(p310 n d x.ln x.ld h1 h2 hx.1 hx.2.1).fsp;have q2:=(p310 n d x.hn x.hd h1 h2 hx.2.2.1 hx.2.2.2).fsp;obtain⟨R,hR⟩:∃R,hasI x n d=R:=⟨_,rfl⟩;rw[hR];unfold hasI at hR;generalize cmpOr n d x.ln x.ld=a at*;generalize cmpOr n d x.hn x.hd=b at*;obtain⟨ln,ld,hn,hd,lo,ho,li,hi⟩:=x;simp only at hR q1 q2;simp[ratV]at q1 q2;simp only[Zga 130,awp_seq,awp_reg,awp_cond,Zge 130 0,Zge 130 1,Zge 130 2,entry];simp[Ivl.V,ratV];cases li with
 |true=>
  simp[awp_skip];simp only[Zge 130 6];simp;cases hi with
  |true=>simp[Zge 130 10,awp_ret,Zgr 130,resVs]at hR ⊢;exact hR
  |false=>
   simp;simp only[Zge 130 7];simp;refine⟨_,_,q2 _,?_⟩;simp only[Zge 130 8];by_cases b1:0 <b
   ·simp[b1,Zge 130 9,awp_ret,Zgr 130,resVs]at hR ⊢;exact hR
   ·by_cases b2:b=0
    ·subst b2;cases ho<;>(simp[Zge 130 9,Zge 130 10,awp_ret,Zgr 130,resVs]at hR ⊢;exact hR)
    ·simp[b1,b2,Zge 130 10,awp_ret,Zgr 130,resVs]at hR ⊢;exact hR
 |false=>
  simp;simp only[Zge 130 3];simp;refine⟨_,_,q1 _,?_⟩;simp only[Zge 130 4];by_cases a1:a <0
  ·simp[a1,Zge 130 5,awp_ret,Zgr 130,resVs]at hR ⊢;exact hR
  ·by_cases a2:a=0∧lo=true
   ·obtain⟨rfl,rfl⟩:=a2;simp[Zge 130 5,awp_ret,Zgr 130,resVs]at hR ⊢;exact hR
   ·have go:(decide (a <0)||decide (a=0)&&lo)=false:=by
     rw[decide_eq_false a1];by_cases a3:a=0
     ·have:lo=false:=by cases lo;rfl;exact absurd ⟨a3,rfl⟩ a2
      simp[this]
     ·simp[a3]
    rw[go]at hR;by_cases a3:a=0
    ·have hlo:lo=false:=by cases lo;rfl;exact absurd ⟨a3,rfl⟩ a2
     subst a3;subst hlo;simp[awp_skip];simp only[Zge 130 6];simp;cases hi with
     |true=>simp[Zge 130 10,awp_ret,Zgr 130,resVs]at hR ⊢;exact hR
     |false=>
      simp;simp only[Zge 130 7];simp;refine⟨_,_,q2 _,?_⟩;simp only[Zge 130 8];by_cases b1:0 <b
      ·simp[b1,Zge 130 9,awp_ret,Zgr 130,resVs]at hR ⊢;exact hR
      ·by_cases b2:b=0
       ·subst b2;cases ho<;>(simp[Zge 130 9,Zge 130 10,awp_ret,Zgr 130,resVs]at hR ⊢;exact hR)
       ·simp[b1,b2,Zge 130 10,awp_ret,Zgr 130,resVs]at hR ⊢;exact hR
    ·simp[a1,a3,awp_skip];simp only[Zge 130 6];simp;cases hi with
     |true=>simp[Zge 130 10,awp_ret,Zgr 130,resVs]at hR ⊢;exact hR
     |false=>
      simp;simp only[Zge 130 7];simp;refine⟨_,_,q2 _,?_⟩;simp only[Zge 130 8];by_cases b1:0 <b
      ·simp[b1,Zge 130 9,awp_ret,Zgr 130,resVs]at hR ⊢;exact hR
      ·by_cases b2:b=0
       ·subst b2;cases ho<;>(simp[Zge 130 9,Zge 130 10,awp_ret,Zgr 130,resVs]at hR ⊢;exact hR)
       ·simp[b1,b2,Zge 130 10,awp_ret,Zgr 130,resVs]at hR ⊢;exact hR
theorem p257 (x:Ivl) (hx:x.ok) (n d:Int) (h1:i64 n) (h2:i64 d) (h:List Row) (q:Nat) (hq:h[q]?=some (.cells [.v (.int .i64 n),.v (.int .i64 d)])) (hl:Low h):
  FSp Tryz.prog GLx 128 [.v x.V,.ref q 0] h [.v (.bool (goodE x&&hasI x n d))] h:=by
 refine fsp_low (Zkk 128) rfl (Nat.le_refl _) hl (by simp[D.lt]) ?_;have hq':=get_old [.cells [.v (.int .i64 x.ln),.v (.int .i64 x.ld),.v (.int .i64 x.hn),.v (.int .i64 x.hd),.v (.bool x.lo),.v (.bool x.ho),.v (.bool x.li),.v (.bool x.hi)]] hq;have q1:=(p258 x hx).fsp;have q2:=(p259 x hx n d h1 h2).fsp;generalize goodE x=G at*;generalize hasI x n d=R at*;simp[Ivl.V,ratV]at q1 q2;simp only[Zga 128,awp_seq,awp_reg,Zge 128 0,Zge 128 1,entryD];simp[Ivl.V];refine⟨_,_,q1 _,?_⟩;cases G with
 |false=>simp[awp_ret,Zgr 128]
 |true=>
  simp[hq'];refine⟨_,_,q2 _,?_⟩;simp[awp_ret,Zgr 128]
def hasL (l:List Ivl) (n d:Int):Bool:=okR n d&&l.any λx=>goodE x&&hasI x n d
theorem p159 (l:List Ivl) (hl:∀x∈l,x.ok) (hn:l.length <2^40) (n d:Int) (h1:i64 n) (h2:i64 d):PSp Tryz.prog GLx 84 [.list (l.map Ivl.V),ratV n d] [.bool (hasL l n d)]:=by
 refine psp_of_awp (Zkk 84) rfl ?_;have q1:=(p248 n d h1 h2).fsp;have hidx:IdxR Tryz.prog GLx 128 [.ref 0 0] (l.map Ivl.V) [.cells [.v (.int .i64 n),.v (.int .i64 d)]] (l.findIdx? λx=>goodE x&&hasI x n d) [.cells [.v (.int .i64 n),.v (.int .i64 d)]]:=
  IdxR.map λx hx=>p257 x (hl x hx) n d h1 h2 _ 0 rfl (by
   intro row hrow;simp only[List.mem_singleton]at hrow;subst hrow;rfl)
 have hcf:=p256 (.func 128 [.ref 0 0]) 128 [.ref 0 0] (FV.r 128 0 0 []) (l.map Ivl.V) (by simpa using hn) (by
  intro x hx;obtain⟨y,_,rfl⟩:=List.mem_map.1 hx;exact⟨_,rfl,rfl⟩) hidx
 rw[findIdx_any]at hcf;unfold hasL;generalize okR n d=O at*;generalize (l.any λx=>goodE x&&hasI x n d)=R at*;simp[ratV]at q1 hcf;simp only[Zga 84,awp_seq,awp_reg,Zge 84 0,Zge 84 1,entry];simp[ratV];cases O with
 |false=>
  simp at q1;refine⟨_,_,q1 _,?_⟩;simp[awp_ret,Zgr 84,resVs]
 |true=>
  simp at q1;refine⟨_,_,q1 _,?_⟩;simp;refine⟨_,_,hcf,?_⟩;simp[awp_ret,Zgr 84,resVs]
theorem ivl_i64 {x:Ivl} (hx:x.ok):∀n∈[x.ln,x.ld,x.hn,x.hd,b01 x.lo,b01 x.ho,b01 x.li,b01 x.hi],i64 n:=by
 intro n hn;simp at hn;rcases hn with rfl|rfl|rfl|rfl|rfl|rfl|rfl|rfl
 ·exact hx.1
 ·exact hx.2.1
 ·exact hx.2.2.1
 ·exact hx.2.2.2
 all_goals exact b01_i64 _
def Ivl.row (x:Ivl):Row:= .cells [.v (.int .i64 x.ln),.v (.int .i64 x.ld),.v (.int .i64 x.hn),.v (.int .i64 x.hd),.v (.bool x.lo),.v (.bool x.ho),.v (.bool x.li),.v (.bool x.hi)]
theorem F.kids_le:∀f:F,∀g∈f.nodes,g.kids.length≤f.size:=by
 refine F.ind λop n ins kids ih g hg=>?_;rw[F.size_eq];rw[F.nodes_eq]at hg;rcases List.mem_cons.1 hg with rfl|hg
 ·have:=F.kids_len kids;simp only[F.kids];omega
 ·obtain⟨k,hk,hg⟩:=List.mem_flatMap.1 hg;have:=ih k hk g hg;have:=F.kid_size hk;omega
section
variable {h:List Row} {r lw:Nat} (hr:r <h.length) (hl:lw <h.length) (hne:r≠lw) (x:List Int) (lf:Int) (a b:Row)
include hr hne
end
def rBy (op n:Int) (ins:List Ivl) (kids:List F):Row:= .cells [.v (.int .i64 op),.v (.int .i64 n),.own 167 8 (ins.map Ivl.V),.own 71 4 (kids.map F.V)]
theorem lts_mon2 {n m:Nat} (h:n≤m):∀ds:List D,D.lts n ds=true→D.lts m ds=true
 |[],_=>rfl
 |d::ds,hd=>by
  simp only[D.lts,Bool.and_eq_true]at hd ⊢;exact⟨dlt_mono h d hd.1,lts_mon2 h ds hd.2⟩
theorem low_mono {n m:Nat} (h:n≤m):∀row:Row,Row.low n row=true→Row.low m row=true:=by
 intro row hr;cases row with
 |cells ds=>exact lts_mon2 h ds hr
 |map=>rfl
 |dead=>rfl
 |obj=>simp[Row.low]at hr
section
mutual
def F.hold (I:Int→Int→Bool):F→Th→Bool
 | .mk op n ins kids,t=>
  if op=1 then t.cs.any λc=>I c n
  else if op=2 then (valT t n).isSome&&hasL ins (valN t n).1 (valN t n).2
  else if op=3 then t.ps.any λp=>F.hold1 I kids p
  else if op=4 then F.holdA I kids t
  else if op=5 then F.holdO I kids t
  else if op=6 then !F.hold1 I kids t
  else true
def F.hold1 (I:Int→Int→Bool):List F→Th→Bool|[],_=>false|k::_,t=>k.hold I t
def F.holdA (I:Int→Int→Bool):List F→Th→Bool|[],_=>true|k::ks,t=>k.hold I t&&F.holdA I ks t
def F.holdO (I:Int→Int→Bool):List F→Th→Bool|[],_=>false|k::ks,t=>k.hold I t||F.holdO I ks t
end
theorem holdA_all (I:Int→Int→Bool) (t:Th):∀l,F.holdA I l t=l.all λk=>k.hold I t
 |[]=>rfl
 |k::ks=>by simp[F.holdA,holdA_all I t ks]
theorem holdO_any (I:Int→Int→Bool) (t:Th):∀l,F.holdO I l t=l.any λk=>k.hold I t
 |[]=>rfl
 |k::ks=>by simp[F.holdO,holdO_any I t ks]
theorem Low.apps {h X:List Row} (hl:Low h) (hx:∀row∈X,Row.low (h.length+X.length) row=true):Low (h++X):=by
 intro row hrow;rw[List.length_append];rcases List.mem_append.1 hrow with h1|h1
 ·exact low_mono (Nat.le_add_right _ _) row (hl row h1)
 ·exact hx row h1
theorem low_V {n:Nat}:∀(xs:List V),D.lts n (xs.map .v)=true:=λxs=>lts_all λd hd=>by
 obtain⟨x,_,rfl⟩:=List.mem_map.1 hd;rfl
theorem low_F (n:Nat) (f:F):Row.low n (.cells f.cells)=true:=by
 obtain⟨op,k,ins,kids⟩:=f;simp[F.cells,Row.low,D.lts,D.lt]
theorem low_T (n:Nat) (t:Th):Row.low n (.cells t.cells)=true:=by
 obtain⟨cs,vs,ps⟩:=t;simp[Th.cells,Row.low,D.lts,D.lt,nums]
section
variable {ps:List V} {bs:List Bool} {H:List Row} {a b x:Nat}
theorem p155 (g:F) (t:Th) (ha:H[a]?=some (.cells [.ref x 0])) (hb:H[b]?=some (.cells t.cells)) (hl:Low H) (R:Bool)
  (hp:FSp Tryz.prog GLx 43 [.ref x 0,.v g.V,.v t.V] (H++[.cells g.cells]) [.v (.bool R)] (H++[.cells g.cells])):
  FSp Tryz.prog GLx 80 [.v g.V,.ref a 0,.ref b 0] H [.v (.bool R)] H:=by
 refine fsp_low (Zkk 80) rfl (Nat.le_refl _) hl (by simp[D.lt]) ?_;have ha':=get_old [.cells g.cells] ha;have hb':=get_old [.cells g.cells] hb;obtain⟨op,n,ins,kids⟩:=g;obtain⟨cs,vs,pa⟩:=t;simp only[F.cells,F.op,F.n,F.ins,F.kids,F.V_eq,Th.cells,Th.cs,Th.vs,Th.ps,Th.V_eq]at*;simp only[Zga 80,awp_seq,awp_reg,Zge 80 0,Zge 80 1,entryD];simp[nums]at hp ha' hb' ⊢;simp[ha',hb'];refine⟨_,_,hp,?_⟩;simp[awp_ret,Zgr 80]
theorem p161 (g:F) (c:Nat) (hc:H[c]?=some (.cells [.func 80 [.ref a 0,.ref b 0]])) (hl:Low H) (R:Bool)
  (hp:FSp Tryz.prog GLx 80 [.v g.V,.ref a 0,.ref b 0] (H++[.cells g.cells]) [.v (.bool R)] (H++[.cells g.cells])):
  FSp Tryz.prog GLx 86 [.v g.V,.ref c 0] H [.v (.bool (!R))] H:=by
 refine fsp_low (Zkk 86) rfl (Nat.le_refl _) hl (by simp[D.lt]) ?_;have hc':=get_old [.cells g.cells] hc;obtain⟨op,n,ins,kids⟩:=g;simp only[F.cells,F.op,F.n,F.ins,F.kids,F.V_eq]at*;simp only[Zga 86,awp_seq,awp_reg,Zge 86 0,Zge 86 1,entryD];simp at hp hc' ⊢;simp[hc',D.vs?,D.v?];refine⟨_,_,hp,?_⟩;simp[awp_ret,Zgr 86]
theorem p156 (f:F) (hps:ps.length≤64) (hbs:bs.length=4096) (hx:H[x]?=some (taxR ps bs)) (ha:H[a]?=some (.cells [.ref x 0])) (hb:H[b]?=some (.cells f.cells)) (c:Int):
  FSp Tryz.prog GLx 81 [.v (.int .i64 c),.ref a 0,.ref b 0] H [.v (.bool (isTx ps.length bs c f.n))] H:=by
 refine fsp_of_awp (Zkk 81) rfl ?_;have hp:=p157 ps bs hps hbs H x hx c f.n;obtain⟨op,n,ins,kids⟩:=f;simp only[F.cells,F.op,F.n,F.ins,F.kids]at*;simp only[Zga 81,awp_seq,awp_reg,Zge 81 0,Zge 81 1,entryD];simp[ha,hb];refine⟨_,_,hp,?_⟩;simp[awp_ret,Zgr 81]
theorem p160 (op n:Int) (ins:List Ivl) (k:F) (ks:List F) (t:Th) (ha:H[a]?=some (.cells [.ref x 0])) (hb:H[b]?=some (.cells (F.mk op n ins (k::ks)).cells)) (hl:Low H) (R:Bool)
  (hp:FSp Tryz.prog GLx 43 [.ref x 0,.v k.V,.v t.V] (H++[.cells t.cells]) [.v (.bool R)] (H++[.cells t.cells])):
  FSp Tryz.prog GLx 85 [.v t.V,.ref a 0,.ref b 0] H [.v (.bool R)] H:=by
 refine fsp_low (Zkk 85) rfl (Nat.le_refl _) hl (by simp[D.lt]) ?_;have ha':=get_old [.cells t.cells] ha;have hb':=get_old [.cells t.cells] hb;obtain⟨op',n',ins',kids'⟩:=k;obtain⟨cs,vs,pa⟩:=t;simp only[F.cells,F.op,F.n,F.ins,F.kids,F.V_eq,Th.cells,Th.cs,Th.vs,Th.ps,Th.V_eq,List.map_cons]at*;simp only[Zga 85,awp_seq,awp_reg,awp_regD,Zge 85 0,Zge 85 1,entryD];simp[nums]at hp ha' hb' ⊢;simp[ha',hb'];refine⟨_,_,hp,?_⟩;simp[awp_ret,Zgr 85]
end
end
def isB (l:List Int):Prop:=∀x∈l,0≤x∧x <256
theorem isB.app {a b:List Int} (ha:isB a) (hb:isB b):isB (a++b):=λx hx=>(List.mem_append.1 hx).elim (ha x) (hb x)
theorem isB.flat {α:Type} {f:α→List Int} {l:List α} (h:∀x∈l,isB (f x)):isB (l.flatMap f):=λy hy=>by
 obtain⟨x,hx,hy⟩:=List.mem_flatMap.1 hy;exact h x hx y hy
theorem isB.uvarF:∀(k:Nat) (n:Int),0≤n→n <128^(k+1)→isB (Go.Va.uvarF k n)
 |0,n,h0,h1=>by
  have e:(128:Int)^(0+1)=128:=by decide
  intro x hx;simp[Go.Va.uvarF]at hx;subst hx;omega
 |k+1,n,h0,h1=>by
  simp only[Go.Va.uvarF];split
  ·intro x hx;simp at hx;omega
  ·intro x hx;rcases List.mem_cons.1 hx with rfl|hx
   ·omega
   ·exact isB.uvarF k (n/128) (by omega) (Int.ediv_lt_of_lt_mul (by decide) (by rw[←Int.pow_succ];exact h1)) x hx
theorem isB.uvar {n:Int} (h0:0≤n) (h1:n <18446744073709551616):isB (Go.Va.uvar n):=by
 have e:(128:Int)^(9+1)=1180591620717411303424:=by decide
 exact isB.uvarF 9 n h0 (by omega)
theorem isB.encI {n:Int} (h:i64 n):isB (Go.Va.encI n):=isB.uvar (zigI_u64 h).1 (zigI_u64 h).2
theorem isB.encInts {l:List Int} (h:∀n∈l,i64 n) (hl:l.length≤2^60):isB (Go.Va.encInts l):=(isB.uvar (by omega) (by omega)).app (isB.flat λn hn=>isB.encI (h n hn))
theorem isB.encRaw {l:List Int} (h:isB l) (hl:l.length≤2^60):isB (Go.Va.encRaw l):=(isB.uvar (by omega) (by omega)).app h
theorem isB.encF {f:F} (hf:f.ok):isB (Go.Va.encF f):=by
 refine isB.flat λg hg=>?_;obtain⟨h1,h2,h3,h4⟩:=hf.1 g hg;have hk:=F.kids_le f g hg;have hs:=hf.2;exact(isB.encI h1).app ((isB.encI h2).app ((isB.encI (by unfold i64;omega)).app ((isB.flat λx hx=>isB.encInts (ivl_i64 (h3 x hx)) (by simp)).app (isB.encI (by unfold i64;omega)))))
theorem isB.encClms {l:List Clm} (hl:∀c∈l,c.ok) (hn:l.length≤2^40) (hb:(Go.Va.encClms l).length≤2^60):isB (Go.Va.encClms l):=by
 refine(isB.encI (by unfold i64;omega)).app (isB.flat λc hc=>?_);obtain⟨o1,o2,o3⟩:=hl c hc;unfold Go.Va.encClms at hb;rw[List.length_append]at hb;have:=flat_len_mem (f:=encClm) hc;simp only[encClm,List.length_append,Go.Va.encRaw]at this;exact(isB.encInts o1 (by omega)).app (isB.encRaw (isB.encF o3) (by omega))
theorem firstE_all {e:Nat→Int}:∀(m k:Nat),firstE e k m=0→∀j,k≤j→j <k+m→e j=0
 |0,k,_,j,h1,h2=>by omega
 |m+1,k,h,j,h1,h2=>by
  simp only[firstE]at h;split at h
  ·rename_i h3;exact absurd h h3
  ·rename_i h3;by_cases hj:j=k
   ·subst hj;simpa using h3
   ·exact firstE_all m (k+1) h j (by omega) (by omega)
theorem spanE_len {l:List Ivl} (h:spanE l=0):l.length≤32:=by
 unfold spanE at h;split at h
 ·cases h
 ·split at h
  ·cases h
  ·omega
def hZ (h:List Row) (x:Nat) (f:F) (t:Th):List Row:=[.cells [.ref x 0],.cells f.cells,.cells t.cells,.cells [.func 80 [.ref h.length 0,.ref (h.length+2) 0]]]
theorem hZ_low {h:List Row} {x:Nat} (f:F) (t:Th) (hl:Low h) (hx:x <h.length):Low (h++hZ h x f t):=by
 refine hl.apps λrow hrow=>?_;simp only[hZ,List.mem_cons,List.not_mem_nil,or_false]at hrow;rcases hrow with rfl|rfl|rfl|rfl
 ·simp[Row.low,D.lts,D.lt,hZ];omega
 ·exact low_F _ f
 ·exact low_T _ t
 ·simp[Row.low,D.lts,D.lt,hZ]
theorem hZ_x {h:List Row} {x:Nat} {r:Row} (f:F) (t:Th) (hx:h[x]?=some r):(h++hZ h x f t)[x]?=some r:=get_old _ hx
theorem hZ_0 (h:List Row) (x:Nat) (f:F) (t:Th):(h++hZ h x f t)[h.length]?=some (.cells [.ref x 0]):=by simp[hZ]
theorem hZ_1 (h:List Row) (x:Nat) (f:F) (t:Th):(h++hZ h x f t)[h.length+1]?=some (.cells f.cells):=by simp[hZ]
theorem hZ_2 (h:List Row) (x:Nat) (f:F) (t:Th):(h++hZ h x f t)[h.length+2]?=some (.cells t.cells):=by simp[hZ]
theorem hZ_3 (h:List Row) (x:Nat) (f:F) (t:Th):(h++hZ h x f t)[h.length+3]?=some (.cells [.func 80 [.ref h.length 0,.ref (h.length+2) 0]]):=by simp[hZ]
def HoldP (ps:List V) (bs:List Bool) (f:F):Prop:=∀t:Th,t.ok→∀(h:List Row) (x:Nat),h[x]?=some (taxR ps bs)→Low h→
 FSp Tryz.prog GLx 43 [.ref x 0,.v f.V,.v t.V] h [.v (.bool (f.hold (isTx ps.length bs) t))] h
theorem hc71_1 {ps:List V} {bs:List Bool} (f:F) (cs:List Int) (vs:List Val) (pa:List Th) (h:List Row) (x:Nat) (hx:h[x]?=some (taxR ps bs)) (hps:ps.length≤64) (hbs:bs.length=4096) (hn:cs.length≤2^30):
  FSp Tryz.prog GLx 76 [.v (nums .i64 cs),.func 81 [.ref h.length 0,.ref (h.length+1) 0]] (h++hZ h x f (.mk cs vs pa)) [.v (.bool (cs.any λc=>isTx ps.length bs c f.n))] (h++hZ h x f (.mk cs vs pa)):=by
 have hidx:IdxR Tryz.prog GLx 81 [.ref h.length 0,.ref (h.length+1) 0] (cs.map (.int .i64)) (h++hZ h x f (.mk cs vs pa)) (cs.findIdx? λc=>isTx ps.length bs c f.n) (h++hZ h x f (.mk cs vs pa)):=
  IdxR.map λc _=>p156 f hps hbs (hZ_x f _ hx) (hZ_0 h x f _) (hZ_1 h x f _) c
 have:=p151 _ 81 _ (FV.r 81 h.length 0 [.ref (h.length+1) 0]) (cs.map (.int .i64)) (by simp;omega) (by
  intro x hx;obtain⟨y,_,rfl⟩:=List.mem_map.1 hx;exact⟨_,rfl⟩) hidx
 rw[findIdx_any]at this;exact this
theorem hc71_3 {ps:List V} {bs:List Bool} (cs:List Int) (vs:List Val) (pa:List Th) (h:List Row) (x:Nat) (hx:h[x]?=some (taxR ps bs)) (hl:Low h) (op n:Int) (ins:List Ivl) (k:F) (ih:HoldP ps bs k) (hn:pa.length≤2^30) (hp:∀p∈pa,p.ok):
  FSp Tryz.prog GLx 78 [.v (.list (pa.map Th.V)),.func 85 [.ref h.length 0,.ref (h.length+1) 0]] (h++hZ h x (.mk op n ins [k]) (.mk cs vs pa)) [.v (.bool (pa.any λp=>k.hold (isTx ps.length bs) p))] (h++hZ h x (.mk op n ins [k]) (.mk cs vs pa)):=by
 have hlow:=hZ_low (.mk op n ins [k]) (.mk cs vs pa) hl (lt_of_get hx);have hidx:IdxR Tryz.prog GLx 85 [.ref h.length 0,.ref (h.length+1) 0] (pa.map Th.V) (h++hZ h x (.mk op n ins [k]) (.mk cs vs pa)) (pa.findIdx? λp=>k.hold (isTx ps.length bs) p) (h++hZ h x (.mk op n ins [k]) (.mk cs vs pa)):=
  IdxR.map λp hm=>p160 op n ins k [] p (hZ_0 h x _ _) (hZ_1 h x _ _) hlow _ (ih p (hp p hm) _ x (get_old _ (hZ_x _ _ hx)) (hlow.app (low_T _ p)))
 have:=p153 _ 85 _ (FV.r 85 h.length 0 [.ref (h.length+1) 0]) (pa.map Th.V) (by simp;omega) (by
  intro x hx;obtain⟨y,_,rfl⟩:=List.mem_map.1 hx;exact y.V3) hidx
 rw[findIdx_any]at this;exact this
theorem hc71_155 {ps:List V} {bs:List Bool} (f:F) (h:List Row) (x:Nat) (hx:h[x]?=some (taxR ps bs)) (hl:Low h) (k:F) (ih:HoldP ps bs k) (t:Th) (ht:t.ok) (X:List Row) (hX:∀row∈X,∃g:F,row= .cells g.cells):
  FSp Tryz.prog GLx 80 [.v k.V,.ref h.length 0,.ref (h.length+2) 0] (h++hZ h x f t++X) [.v (.bool (k.hold (isTx ps.length bs) t))] (h++hZ h x f t++X):=by
 have hlow:=(hZ_low f t hl (lt_of_get hx)).apps (X:=X) (by
  intro row hrow;obtain⟨g,rfl⟩:=hX row hrow;exact low_F _ g)
 exact p155 k t (get_old _ (hZ_0 h x f t)) (get_old _ (hZ_2 h x f t)) hlow _ (ih t ht _ x (get_old _ (get_old _ (hZ_x f t hx))) (hlow.app (low_F _ k)))
theorem kids4 (kids:List F):∀x∈kids.map F.V,∃cs,x=V.agg cs∧cs.length=4:=by
 intro x hx;obtain⟨k,_,rfl⟩:=List.mem_map.1 hx;obtain⟨ko,kn,ki,kk⟩:=k;exact⟨_,F.V_eq ..,rfl⟩
theorem formed1 (f:F) (h:formedF f=true) (ho:f.op=3∨f.op=6):∃k,f.kids=[k]:=by
 unfold formedF at h;by_cases hc:(f.op≠2∧0 <f.ins.length)∨(f.op≠2∧f.op≠1∧f.n≠0)
 ·rw[if_pos hc]at h;cases h
 ·rw[if_neg hc,if_neg (by omega),if_neg (by omega),if_neg (by omega),if_pos ho]at h
  match f.kids,h with
  |[k],_=>exact⟨k,rfl⟩
theorem formed2 (f:F) (h:formedF f=true):f.ins.length≤32:=by
 unfold formedF at h;by_cases hc:(f.op≠2∧0 <f.ins.length)∨(f.op≠2∧f.op≠1∧f.n≠0)
 ·rw[if_pos hc]at h;cases h
 ·by_cases h2:f.op=2
  ·rw[if_neg hc,if_neg (by omega),if_neg (by omega),if_pos h2]at h;exact spanE_len (of_decide_eq_true h).2.2.2
  ·omega
set_option maxRecDepth 100000 in
theorem p71 {ps:List V} {bs:List Bool} (hps:ps.length≤64) (hbs:bs.length=4096):∀f:F,f.ok→f.nodes.all formedF=true→HoldP ps bs f:=by
 refine F.ind λop n ins kids ih hok hfm=>?_;have hsz:=hok.2;rw[F.size_eq]at hsz;have hkl:=F.kids_len kids;have hfo:formedF (.mk op n ins kids)=true:=by
  rw[F.nodes_eq]at hfm;simp only[List.all_cons,Bool.and_eq_true]at hfm;exact hfm.1
 have hfk:∀k∈kids,k.nodes.all formedF=true:=by
  intro k hk;rw[F.nodes_eq]at hfm;simp only[List.all_cons,Bool.and_eq_true]at hfm;rw[List.all_eq_true]at hfm ⊢;exact λg hg=>hfm.2 g (List.mem_flatMap.2 ⟨k,hk,hg⟩)
 have ih':∀k∈kids,HoldP ps bs k:=λk hk=>ih k hk (F.ok_kid hok hk) (hfk k hk);have ok1:=hok.1 (.mk op n ins kids) (by rw[F.nodes_eq];simp);intro t ht h x hx hl;refine fsp_low (Zkk 43) rfl (Nat.le_refl _) hl (by simp[D.lt]) ?_;obtain⟨R,hR⟩:∃R,F.hold (isTx ps.length bs) (.mk op n ins kids) t=R:=⟨_,rfl⟩;rw[hR];rw[F.hold]at hR;have q2:=(p158 t n ht).fsp;have q2b:=λh1 h2=>(p159 ins ok1.2.2.1 (by have:=formed2 _ hfo;simp only[F.ins]at this;omega) (valN t n).1 (valN t n).2 h1 h2).fsp;have c155:=λk hk=>hc71_155 (.mk op n ins kids) h x hx hl k (ih' k hk) t ht;have hlow:=hZ_low (.mk op n ins kids) t hl (lt_of_get hx);have hvn:i64 (valN t n).1∧i64 (valN t n).2:=by
  unfold valN valT;cases hf:t.vs.find? λx=>x.a==n with
  |none=>exact⟨⟨by decide,by decide⟩,⟨by decide,by decide⟩⟩
  |some y=>
   obtain⟨cs,vs,pa⟩:=t;obtain⟨o1,o2,o3,o4,o5⟩:=ht;exact(o4 y (List.mem_of_find?_eq_some hf)).2
 replace q2b:=q2b hvn.1 hvn.2
 clear hvn;have hc4:op=4→FSp Tryz.prog GLx 74 [.v (.list (kids.map F.V)),.func 86 [.ref (h.length+3) 0]] (h++hZ h x (.mk op n ins kids) t) [.v (.bool (!kids.all λk=>k.hold (isTx ps.length bs) t))] (h++hZ h x (.mk op n ins kids) t):=by
  intro _;have hidx:IdxR Tryz.prog GLx 86 [.ref (h.length+3) 0] (kids.map F.V) (h++hZ h x (.mk op n ins kids) t) (kids.findIdx? λk=> !k.hold (isTx ps.length bs) t) (h++hZ h x (.mk op n ins kids) t):=
   IdxR.map λk hk=>p161 k _ (hZ_3 h x _ t) hlow _ (c155 k hk [.cells k.cells] (by intro row hrow;exact⟨k,List.mem_singleton.1 hrow⟩))
  have:=p149 _ 86 _ (FV.r 86 (h.length+3) 0 []) (kids.map F.V) (by simp;omega) (kids4 kids) hidx;rw[all_idx]at this;exact this
 have hc5:op=5→FSp Tryz.prog GLx 74 [.v (.list (kids.map F.V)),.func 80 [.ref h.length 0,.ref (h.length+2) 0]] (h++hZ h x (.mk op n ins kids) t) [.v (.bool (kids.any λk=>k.hold (isTx ps.length bs) t))] (h++hZ h x (.mk op n ins kids) t):=by
  intro _;have hidx:IdxR Tryz.prog GLx 80 [.ref h.length 0,.ref (h.length+2) 0] (kids.map F.V) (h++hZ h x (.mk op n ins kids) t) (kids.findIdx? λk=>k.hold (isTx ps.length bs) t) (h++hZ h x (.mk op n ins kids) t):=
   IdxR.map λk hk=>by have:=c155 k hk [] (by simp);rw[List.append_nil]at this;exact this
  have:=p149 _ 80 _ (FV.r 80 h.length 0 [.ref (h.length+2) 0]) (kids.map F.V) (by simp;omega) (kids4 kids) hidx;rw[findIdx_any]at this;exact this
 obtain⟨cs,vs,pa⟩:=t;have ht':=ht;obtain⟨o1,o2,o3,o4,o5⟩:=ht';have q1:=hc71_1 (.mk op n ins kids) cs vs pa h x hx hps hbs o1;simp only[holdA_all,holdO_any]at hR;simp only[Zga 43,awp_seq,awp_reg,awp_block,awp_cond,Zge 43 0,Zge 43 1,Zge 43 2,entryD];simp only[Th.cs,Th.ps,F.n]at hR q1;simp only[hZ,F.cells,F.op,F.n,F.ins,F.kids,F.V_eq,Th.cells,Th.cs,Th.vs,Th.ps,Th.V_eq]at*;simp[nums,putL]at*;simp only[Zge 43 3];simp;by_cases b1:op=1
 ·simp[b1]at hR;simp[b1,Zge 43 4];rw[b1]at q1;refine⟨_,_,q1,?_⟩;simp[awp_ret,Zgr 43,hR]
 ·simp[b1]at hR;simp[b1];simp only[Zge 43 5];simp;by_cases b2:op=2
  ·simp[b2]at hR;simp[b2,Zge 43 6];refine⟨_,_,q2 _,?_⟩;generalize valT (Th.mk cs vs pa) n=O at*;generalize valN (Th.mk cs vs pa) n=N at*;simp[ratV]at q2b;simp[ratV,putL,Zge 43 7];cases O with
   |none=>simp at hR;simp[awp_ret,Zgr 43,hR]
   |some y=>
    simp at hR;simp;refine⟨_,_,q2b _,?_⟩;simp[awp_ret,Zgr 43,hR]
  ·simp[b2]at hR;simp[b2];simp only[Zge 43 8];simp;by_cases b3:op=3
   ·obtain⟨k,hk⟩:=formed1 _ hfo (.inl b3);simp only[F.kids]at hk;subst hk;have q3:=hc71_3 cs vs pa h x hx hl op n ins k (ih' k (by simp)) o3 o5;simp[hZ,F.cells,F.op,F.n,F.ins,F.kids,Th.cells,Th.cs,Th.vs,Th.ps,nums]at q3;simp[b3,F.hold1]at hR q3;simp[b3,Zge 43 9];refine⟨_,_,q3,?_⟩;simp[awp_ret,Zgr 43,hR]
   ·simp[b3]at hR;simp[b3];simp only[Zge 43 10];simp;by_cases b4:op=4
    ·have q4:=hc4 b4;simp[b4]at hR q4;simp[b4,Zge 43 11];refine⟨_,_,q4,?_⟩;simp[awp_ret,Zgr 43,hR]
    ·simp[b4]at hR;simp[b4];simp only[Zge 43 12];simp;by_cases b5:op=5
     ·have q5:=hc5 b5;simp[b5]at hR q5;simp[b5,Zge 43 13];refine⟨_,_,q5,?_⟩;simp[awp_ret,Zgr 43,hR]
     ·simp[b5]at hR;simp[b5];simp only[Zge 43 14];simp;by_cases b6:op=6
      ·obtain⟨k,hk⟩:=formed1 _ hfo (.inr b6);simp only[F.kids]at hk;subst hk;have q6:=c155 k (by simp) [];obtain⟨ko,kn,ki,kk⟩:=k;simp[F.V_eq]at q6;simp[b6,F.hold1]at hR q6;simp[b6,awp_regD,Zge 43 15,F.V_eq];refine⟨_,_,q6,?_⟩;simp[awp_ret,Zgr 43,hR]
      ·simp[b6]at hR;simp[b6,awp_skip,Zge 43 16,awp_ret,Zgr 43,hR]
theorem awp_range_at {P:Program} {GL:Globals} {q:Opd} {ps:List Nat} {asg body:AC} {Q:AExit→St→Prop} {s:St} (n:Nat) (hn:s.h.length=n) (fid:Nat) (caps rets:List D) (h1 h':List Row) (tag:Tag)
  (hq:fnOf (q.ev s.e)=some (fid,caps)) (hh:s.h++[recRow P GL .ready (cpE s.e) ps asg body]=h1) (hf:FSp P GL fid (.yld n::caps) h1 rets h')
  (hr:h'[n]?=some (recRow P GL tag (cpE s.e) ps asg body)) (he:rangeEnd Q ⟨s.e,h'.set n .dead⟩ tag):awp P GL (.rangeF q ps asg body) Q s:=by
 subst hn;exact awp_range_of fid caps rets h1 h' tag hq hh hf hr he
def okC (nc:Int) (g:F):Bool:= !(decide (g.op=1)&&decide (nc≤g.n))
theorem formE0 {f:F} (h:formE f=0):f.nodes.all formedF=true:=by
 unfold formE at h;split at h
 ·cases h
 ·split at h
  ·assumption
  ·cases h
theorem kill_app (X J:List Row):kill X.length (X++J)=X++List.replicate J.length .dead:=by
 simp[kill]
theorem low_dead {h:List Row} (hl:Low h) (m:Nat):Low (h++List.replicate m .dead):=hl.apps (by
 intro row hrow;rw[List.eq_of_mem_replicate hrow];rfl)
section
variable {ps:List V} {bs:List Bool} (h:List Row) (x:Nat) (A B C:Row) (e0:Env)
def X25 (h:List Row) (x:Nat) (A B C:Row) (e0:Env) (v:Int) (t:Tag):List Row:=
 h++[.cells [.ref x 0],A,B,.cells [.v (.bool false)],.cells [.v (.int .i64 v)],C,recRow Tryz.prog GLx t e0 [23] (lG 20 0) (lG 20 1000)]
theorem y25 (h3:find e0 3= .ref h.length 0) (h6:find e0 6= .ref (h.length+3) 0) (h7:find e0 7= .ref (h.length+4) 0) (hx:h[x]?=some (taxR ps bs)) (g:F) (J:List Row):∃J2,YSp Tryz.prog GLx (h.length+6) [.v g.V] (X25 h x A B C e0 0 .ready++J) (okC ps.length g)
   ((if okC ps.length g then X25 h x A B C e0 0 .ready else X25 h x A B C e0 7 (.done none))++(J++J2)):=by
 refine⟨[.cells g.cells],ysp_of_awp (e0:=e0) (ps:=[23]) (asg:=(lG 20 0)) (body:=(lG 20 1000)) (by simp[X25]) rfl ?_⟩;have q:=λZ=>p69 ps bs (h++Z) x (get_old Z hx);have hok:okC ps.length g= !(decide (g.op=1)&&decide ((ps.length:Int)≤g.n)):=rfl;generalize okC ps.length g=b at*;obtain⟨op,n,ins,kids⟩:=g;simp only[F.cells,F.op,F.n,F.ins,F.kids,F.V_eq,X25]at*;simp only[setPs,Zgl 20 0,Zgl 20 1000,awp_reg,awp_block,awp_seq,awp_cond,Zge 20 7];simp[h3,h6,h7,putL];rw[awp_regA];refine atok_mono _ (λs hs=>⟨s,.inl rfl,hs⟩) ?_;simp only[Zge 20 8];simp;by_cases b1:op=1
 ·simp[b1]at hok ⊢;by_cases b2:(ps.length:Int)≤n
  ·simp[b2]at hok;subst hok
   constructor
   ·refine⟨_,_,q _,?_⟩;simp[b2,Zge 20 9,putL,awp_ret,roundEnd]
   ·refine⟨_,_,q _,?_⟩;simp[b2,Zge 20 9,putL,awp_ret,roundEnd]
  ·simp[b2]at hok;subst hok
   constructor
   ·refine⟨_,_,q _,?_⟩;simp[b2,awp_skip,roundEnd]
   ·refine⟨_,_,q _,?_⟩;simp[b2,awp_skip,roundEnd]
 ·simp[b1]at hok ⊢;simp[hok,awp_skip,roundEnd]
theorem l25 (h3:find e0 3= .ref h.length 0) (h6:find e0 6= .ref (h.length+3) 0) (h7:find e0 7= .ref (h.length+4) 0) (hx:h[x]?=some (taxR ps bs)):∀(ns:List F),
  RunY Tryz.prog GLx (h.length+6) (ns.map F.V) (X25 h x A B C e0 0 .ready) (ns.all (okC ps.length)) (if ns.all (okC ps.length) then X25 h x A B C e0 0 .ready else X25 h x A B C e0 7 (.done none)):=by
 intro ns;induction ns with
 |nil=>exact⟨rfl,rfl⟩
 |cons n ns ih=>
  have hy:=y25 h x A B C e0 h3 h6 h7 hx n;refine⟨okC ps.length n,_,?_,hy,?_⟩
  ·split<;>simp[X25]
  ·cases hf:okC ps.length n with
   |true=>
    simp only[if_true,List.all_cons,hf,Bool.true_and];exact ih
   |false=>simp[hf]
end
def hldE (nc:Int) (f:F) (t:Th):Int:=if formE f≠0 then formE f else if thE t≠0 then thE t else if f.nodes.all (okC nc)&&t.kinds nc then 0 else 7
set_option maxRecDepth 100000 in
theorem p25 {ps:List V} {bs:List Bool} (hps:ps.length≤64) (hbs:bs.length=4096) (f:F) (hf:f.ok) (t:Th) (ht:t.ok) (h:List Row) (x:Nat) (hx:h[x]?=some (taxR ps bs)) (hl:Low h):
  FSp Tryz.prog GLx 20 [.ref x 0,.v f.V,.v t.V] h [.v (.bool (decide (hldE ps.length f t=0)&&f.hold (isTx ps.length bs) t)),.v (.int .i64 (hldE ps.length f t))] h:=by
 refine fsp_low (Zkk 20) rfl (Nat.le_refl _) hl (by simp[D.lt]) ?_;obtain⟨E,hE⟩:∃E,hldE ps.length f t=E:=⟨_,rfl⟩;have hlow:Low (h++[.cells [.ref x 0],.cells f.cells,.cells t.cells,.cells [.v (.bool false)],.cells [.v (.int .i64 0)]]):=hl.apps (by
  intro row hrow;have:=lt_of_get hx;simp only[List.mem_cons,List.not_mem_nil,or_false]at hrow;rcases hrow with rfl|rfl|rfl|rfl|rfl
  ·simp[Row.low,D.lts,D.lt];omega
  ·exact low_F _ f
  ·exact low_T _ t
  ·simp[Row.low,D.lts,D.lt]
  ·simp[Row.low,D.lts,D.lt])
 have q1:=p66 f hf;have q2:=p67 t ht;have q3:=p65 [formE f,thE t] (by simp);have q4:=p68 f;have q5:=λZ=>p69 ps bs (h++Z) x (get_old Z hx);have q6:=p70 ps.length t ht;have q7:=λ(h1:formE f=0)=>p71 hps hbs f hf (formE0 h1) t ht;rw[hE];unfold hldE at hE;generalize formE f=e1 at*;generalize thE t=e2 at*;obtain⟨B,hB⟩:∃B,f.hold (isTx ps.length bs) t=B:=⟨_,rfl⟩;rw[hB]at q7 ⊢;generalize t.kinds ps.length=K at*;have hrun:=λe0 a1 a2 a3=>l25 (ps:=ps) (bs:=bs) h x (.cells f.cells) (.cells t.cells) (.cells f.cells) e0 a1 a2 a3 hx f.nodes;generalize f.nodes.all (okC ps.length)=O at*;obtain⟨op,n,ins,kids⟩:=f;obtain⟨cs,vs,pa⟩:=t;simp only[F.cells,F.op,F.n,F.ins,F.kids,F.V_eq,Th.cells,Th.cs,Th.vs,Th.ps,Th.V_eq]at*;simp[nums]at q1 q2 q3 q4;simp only[Zga 20,awp_seq,awp_reg,awp_block,awp_cond,Zge 20 0,Zge 20 1,entryD];simp[nums,awp_skip];simp only[awp_regD,Zge 20 3];simp;refine⟨_,_,⟨rfl,rfl⟩,_,q1,?_⟩;simp;refine⟨_,_,⟨rfl,rfl⟩,_,q2,?_⟩;simp;refine⟨_,_,⟨rfl,rfl⟩,_,q3,?_⟩;generalize hfi:(List.find? (λx=>x != 0) [e1,e2]).getD 0=fe;have hfe:fe=if e1≠0 then e1 else e2:=by
  subst hfi;by_cases c1:e1=0
  ·by_cases c2:e2=0
   ·simp[c1,c2]
   ·simp[c1,c2]
  ·simp[c1]
 clear hfi q3;simp[Zge 20 4];by_cases b1:fe=0
 ·have c1:e1=0:=by
   by_cases c:e1=0
   ·exact c
   ·rw[if_pos c]at hfe;omega
  have c2:e2=0:=by rw[c1]at hfe;simpa[b1]using hfe.symm
  simp[c1,c2]at hE
  replace q7:=q7 c1
  simp[b1,Zge 20 6];refine⟨_,_,q4 _,?_⟩;simp;have hr:=hrun (cpE [(3,.ref h.length 0),(4,.ref (h.length+1) 0),(5,.ref (h.length+2) 0),(6,.ref (h.length+3) 0),(7,.ref (h.length+4) 0),(22,.func 72 [.ref (h.length+5) 0])]) rfl rfl rfl;obtain⟨J,hp⟩:=p147 _ hf _ (h.length+5) _ _ _ hr (by simp[X25,F.cells,F.op,F.n,F.ins,F.kids])
  replace hp:=hp.kill (h.length+7)
  have hk:=λ(v:Int) (t:Tag) A B C e0=>kill_app (X25 h x A B C e0 v t) J;simp only[show ∀v t A B C e0,(X25 h x A B C e0 v t).length=h.length+7 from λv t A B C e0=>by simp[X25]]at hk;generalize J.length=m at hk;cases O with
  |false=>
   simp only[Bool.false_eq_true,if_false,hk]at hp;refine awp_range_at (h.length+6) (by simp) 72 [.ref (h.length+5) 0] [] _ _ (.done none) rfl ?_ hp ?_ ?_
   ·simp[X25,nums]
   ·simp[X25]
   ·have hE7:E=7:=by simpa using hE.symm
    simp[rangeEnd,X25,Zgr 20,D.one?,D.v?,hE7]
  |true=>
   simp only[if_true,hk]at hp;refine awp_range_at (h.length+6) (by simp) 72 [.ref (h.length+5) 0] [] _ _ .ready rfl ?_ hp ?_ ?_
   ·simp[X25,nums]
   ·simp[X25]
   ·simp at hE;simp[rangeEnd,X25];have hL:Low (h++Row.cells [D.ref x 0]::Row.cells [D.v (V.int IntKind.i64 op),D.v (V.int IntKind.i64 n),D.v (V.list (List.map Ivl.V ins)),D.v (V.list (List.map F.V kids))]::
      Row.cells [D.v (nums IntKind.i64 cs),D.v (V.list (List.map Val.V vs)),D.v (V.list (List.map Th.V pa))]::Row.cells [D.v (V.bool false)]::Row.cells [D.v (V.int IntKind.i64 0)]::
      Row.cells [D.v (V.int IntKind.i64 op),D.v (V.int IntKind.i64 n),D.v (V.list (List.map Ivl.V ins)),D.v (V.list (List.map F.V kids))]::Row.dead::List.replicate m Row.dead):=by
     have h1:=hlow.app (row:=Row.cells [D.v (V.int IntKind.i64 op),D.v (V.int IntKind.i64 n),D.v (V.list (List.map Ivl.V ins)),D.v (V.list (List.map F.V kids))]) (by simp[Row.low,D.lts,D.lt]);have h2:=low_dead (h1.app (row:= .dead) rfl) m;simpa using h2
    replace q7:=q7 _ x (get_old _ hx) hL
    rw[awp_regA];refine atok_mono _ (λs hs=>⟨s,.inl rfl,hs⟩) ?_;simp only[Zge 20 10];simp;have hfin:E=(if K then 0 else 7):=hE.symm
    constructor
    ·refine⟨_,_,q5 _,?_⟩;simp;refine⟨_,_,⟨rfl,rfl⟩,_,q6,?_⟩;cases K with
     |false=>simp at hfin;simp[Zge 20 11,putL,awp_ret,Zgr 20,D.one?,D.v?,hfin]
     |true=>
      simp at hfin;simp[Zge 20 12];refine⟨_,_,q7,?_⟩;simp[putL,awp_ret,Zgr 20,D.one?,D.v?,hfin]
    ·refine⟨_,_,q5 _,?_⟩;simp;refine⟨_,_,⟨rfl,rfl⟩,_,q6,?_⟩;cases K with
     |false=>simp at hfin;simp[Zge 20 11,putL,awp_ret,Zgr 20,D.one?,D.v?,hfin]
     |true=>
      simp at hfin;simp[Zge 20 12];refine⟨_,_,q7,?_⟩;simp[putL,awp_ret,Zgr 20,D.one?,D.v?,hfin]
 ·have hEf:E=fe:=by
   rw[hfe,←hE];by_cases c:e1=0
   ·have c2:e2≠0:=by rw[c]at hfe;simp at hfe;omega
    simp[c,c2]
   ·simp[c]
  simp[b1,Zge 20 5,putL,awp_ret,Zgr 20,hEf,D.one?,D.v?]
theorem p63 (l:List Clm) (hl:∀c∈l,c.ok) (hn:l.length≤2^40) (hz:clmsE l=0) (i:Nat) (hi:i <l.length):PSp Tryz.prog GLx 36 [.list (l.map Clm.V),.int .i64 i] [.int .i64 0]:=by
 refine psp_of_awp (Zkk 36) rfl ?_;have q:=(p138 l hl hn).fsp;rw[hz]at q;have h1:¬(i:Int) <0:=by omega
 have h2:¬((l.length:Int)≤i):=by omega
 have h3:¬(l.length≤i):=by omega
 simp only[Zga 36,awp_seq,awp_reg,awp_cond,Zge 36 0,Zge 36 1,entry];simp at q ⊢;refine⟨_,_,q _,?_⟩;simp[awp_skip,Zge 36 2,Zge 36 4,h1,h2,Zge 36 6,awp_ret,Zgr 36]
def partsF (f:F):List F:=if f.op=4 then f.kids else [f]
theorem p141 (f:F):PSp Tryz.prog GLx 68 [f.V] [.list ((partsF f).map F.V)]:=by
 refine psp_of_awp (Zkk 68) rfl ?_;unfold partsF;obtain⟨op,n,ins,kids⟩:=f;by_cases h:op=4<;>simp[Zga 68,awp,Zge 68 0,Zge 68 1,Zge 68 2,Zge 68 3,Zgr 68,entry,F.V_eq,h,F.op,F.kids]
mutual
def F.tops:F→List F| .mk op n ins kids=>if op=5 then F.topss kids else [.mk op n ins kids]
def F.topss:List F→List F|[]=>[]|k::ks=>k.tops++F.topss ks
end
theorem topss_eq:∀l,F.topss l=l.flatMap F.tops
 |[]=>rfl
 |k::ks=>by simp[F.topss,topss_eq ks]
theorem F.tops_eq (op n:Int) (ins:List Ivl) (kids:List F):(F.mk op n ins kids).tops=if op=5 then kids.flatMap F.tops else [.mk op n ins kids]:=by
 rw[F.tops,topss_eq]
theorem p139 (f:F) (h:List Row):FSp Tryz.prog GLx 66 [.v f.V] h [.func 117 [.ref h.length 0]] (h++[.cells f.cells]):=by
 refine fsp_of_awp (Zkk 66) rfl ?_;obtain⟨op,n,ins,kids⟩:=f;simp[Zga 66,awp,Zge 66 0,Zge 66 1,Zgr 66,entryD,F.V_eq,F.cells,F.op,F.n,F.ins,F.kids,D.vs?,D.v?]
theorem p244 (x:F) (c:Nat) (h:List Row) (a:Nat) (hc:h[c]?=some (.cells [.func 118 [.ref a 0,.ref c 0]])) (b:Bool) (h':List Row)
  (hp:FSp Tryz.prog GLx 118 [.v x.V,.ref a 0,.ref c 0] (h++[.cells x.cells]) [.v (.bool b)] h'):FSp Tryz.prog GLx 119 [.v x.V,.ref c 0] h [.v (.bool (!b))] h':=by
 refine fsp_of_awp (Zkk 119) rfl ?_;have hc2:=get_old [.cells x.cells] hc;obtain⟨xo,xn,xi,xk⟩:=x;simp only[F.cells,F.op,F.n,F.ins,F.kids,F.V_eq]at*;simp only[Zga 119,awp_seq,awp_reg,Zge 119 0,Zge 119 1,entryD];simp[hc2,D.vs?,D.v?];refine⟨_,_,hp,?_⟩;simp[awp_ret,Zgr 119]
theorem l243 (r:Nat) (a c:Nat) (kids:List F) (hk:∀k∈kids,∀X b X' J i j,a=X.length+i→c=X.length+j→RunY Tryz.prog GLx r (k.tops.map F.V) X b X'→J[i]?=some (.cells [.yld r])→J[j]?=some (.cells [.func 118 [.ref a 0,.ref c 0]])→
   ∃J',FSp Tryz.prog GLx 118 [.v k.V,.ref a 0,.ref c 0] (X++J) [.v (.bool b)] (X'++(J++J'))):
  ∀(X:List Row) (b:Bool) (X':List Row) (J:List Row) (i j:Nat),a=X.length+i→c=X.length+j→RunY Tryz.prog GLx r ((kids.flatMap F.tops).map F.V) X b X'→J[i]?=some (.cells [.yld r])→J[j]?=some (.cells [.func 118 [.ref a 0,.ref c 0]])→
   ∃J' q,IdxR Tryz.prog GLx 119 [.ref c 0] (kids.map F.V) (X++J) q (X'++(J++J'))∧q.isSome= !b:=by
 induction kids with
 |nil=>
  rintro X b X' J i j ha hc ⟨rfl,rfl⟩ hi hj;exact⟨[],none,⟨rfl,by simp⟩,rfl⟩
 |cons k ks ih=>
  intro X b X' J i j ha hc hr hi hj;rw[List.flatMap_cons,List.map_append]at hr;obtain⟨b1,X1,h1,h2⟩:=hr.app;have hl:=h1.len;obtain⟨J1,hp⟩:=hk k (by simp) X b1 X1 (J++[.cells k.cells]) i j ha hc h1 (get_old _ hi) (get_old _ hj);have hcc:(X++J)[c]?=some (.cells [.func 118 [.ref a 0,.ref c 0]]):=by rw[get_appk X J c j hc];exact hj
  rw[←List.append_assoc]at hp;have hq:=p244 k c (X++J) a hcc b1 _ hp;cases b1 with
  |true=>
   simp only[if_true]at h2;obtain⟨J2,q,h3,h4⟩:=ih (λx hx=>hk x (by simp[hx])) X1 b X' (J++[.cells k.cells]++J1) i j (by rw[hl];exact ha) (by rw[hl];exact hc) h2 (get_old _ (get_old _ hi)) (get_old _ (get_old _ hj));refine⟨[.cells k.cells]++J1++J2,q.map (· +1),⟨false,_,hq,?_⟩,by cases q<;>simpa using h4⟩
   simp only[Bool.false_eq_true,if_false];refine⟨q,?_,rfl⟩;simpa[List.append_assoc]using h3
  |false=>
   simp only[Bool.false_eq_true,if_false]at h2;obtain⟨rfl,rfl⟩:=h2;refine⟨[.cells k.cells]++J1,some 0,⟨true,_,hq,?_⟩,rfl⟩;simp[List.append_assoc]
theorem p243 (r:Nat) (a c:Nat):∀f:F,f.ok→∀X b X' J i j,a=X.length+i→c=X.length+j→RunY Tryz.prog GLx r (f.tops.map F.V) X b X'→J[i]?=some (.cells [.yld r])→J[j]?=some (.cells [.func 118 [.ref a 0,.ref c 0]])→
   ∃J',FSp Tryz.prog GLx 118 [.v f.V,.ref a 0,.ref c 0] (X++J) [.v (.bool b)] (X'++(J++J')):=by
 refine F.ind λop n ins kids ih hok=>?_;intro X b X' J i j ha hc hr hi hj;have hsz:=hok.2;rw[F.size_eq]at hsz;have hkl:=F.kids_len kids;rw[F.tops_eq]at hr;have ga:(X++(J++[.cells (F.mk op n ins kids).cells]))[a]?=some (.cells [.yld r]):=by rw[get_appk X _ a i ha];exact get_old _ hi
 have gf:(X++(J++[.cells (F.mk op n ins kids).cells]))[X.length+J.length]?=some (.cells (F.mk op n ins kids).cells):=by rw[get_appk X _ _ J.length rfl];simp
 have hkids:∀x∈kids.map F.V,∃cs,x=V.agg cs∧cs.length=4:=by
  intro x hx;obtain⟨k,_,rfl⟩:=List.mem_map.1 hx;obtain⟨ko,kn,ki,kk⟩:=k;exact⟨_,F.V_eq ..,rfl⟩
 by_cases h5:op=5
 ·rw[if_pos h5]at hr;obtain⟨J3,q,hidx,hq⟩:=l243 r a c kids (λk hk=>ih k hk (F.ok_kid hok hk)) X b X' (J++[.cells (F.mk op n ins kids).cells]) i j ha hc hr (get_old _ hi) (get_old _ hj);have hp:=p149 (.func 119 [.ref c 0]) 119 [.ref c 0] (FV.r 119 c 0 []) (kids.map F.V) (by simp;omega) hkids hidx;refine⟨[.cells (F.mk op n ins kids).cells]++J3,fsp_of_awp (Zkk 118) rfl ?_⟩;simp only[F.cells,F.op,F.n,F.ins,F.kids,F.V_eq]at*;simp only[Zga 118,awp_seq,awp_reg,awp_cond,Zge 118 0,Zge 118 1,entryD];simp[h5,awp_skip];simp[h5]at gf;simp[D.vs?,D.v?,Zge 118 3];simp[h5]at hp;rw[hq]at hp;refine⟨_,_,hp,?_⟩;simp[awp_ret,Zgr 118]
 ·rw[if_neg h5]at hr;obtain⟨b1,X1,hl,hy,hr2⟩:=hr;obtain⟨J2,hy2⟩:=hy (J++[.cells (F.mk op n ins kids).cells]);have hbb:b=b1∧X'=X1:=by
   cases b1 with
   |true=>exact hr2
   |false=>exact hr2
  obtain⟨rfl,rfl⟩:=hbb;refine⟨[.cells (F.mk op n ins kids).cells]++J2,fsp_of_awp (Zkk 118) rfl ?_⟩;simp only[F.cells,F.op,F.n,F.ins,F.kids,F.V_eq]at*;simp only[Zga 118,awp_seq,awp_reg,awp_cond,Zge 118 0,Zge 118 1,entryD];simp[-Bool.exists_bool];simp[h5,Zge 118 2,-Bool.exists_bool];simp[ga,-Bool.exists_bool];refine⟨_,_,hy2,?_⟩;simp[awp_ret,Zgr 118]
theorem p242 (f:F) (hok:f.ok) (r q:Nat) (X:List Row) (b:Bool) (X':List Row) (hr:RunY Tryz.prog GLx r (f.tops.map F.V) X b X') (hq:X[q]?=some (.cells f.cells)):
  ∃J,FSp Tryz.prog GLx 117 [.yld r,.ref q 0] X [] (X'++J):=by
 obtain⟨J',hp⟩:=p243 r X.length (X.length+1) f hok X b X' [.cells [.yld r],.cells [.func 118 [.ref X.length 0,.ref (X.length+1) 0]]] 0 1 rfl rfl hr rfl rfl;refine⟨[.cells [.yld r],.cells [.func 118 [.ref X.length 0,.ref (X.length+1) 0]]]++J',fsp_of_awp (Zkk 117) rfl ?_⟩;obtain⟨op,n,ins,kids⟩:=f;have hq2:=get_old [.cells [.yld r],.cells [.func 118 [.ref X.length 0,.ref (X.length+1) 0]]] hq;simp only[F.cells,F.op,F.n,F.ins,F.kids,F.V_eq]at*;simp only[Zga 117,awp_seq,awp_reg,Zge 117 0,Zge 117 1,Zge 117 2,Zge 117 3,entryD];simp[putL,D.v?]
 try simp at hq2
 simp[hq2];exact⟨⟨_,hp⟩,rfl⟩
theorem p337 (l:List Int) (n:Int) (hn:l.length≤2^40):PSp Tryz.prog GLx 49 [nums .i64 l,.int .i64 n] [.int .i64 (idxI (l.findIdx? λx=>n==x))]:=by
 refine psp_of_awp (Zkk 49) rfl ?_;obtain⟨R,hR⟩:∃R,idxI (l.findIdx? λx=>n==x)=R:=⟨_,rfl⟩;rw[hR];simp only[Zga 49,awp_seq,awp_reg,awp_block,Zge 49 0,Zge 49 1,entry];simp[nums];refine awp_loop_inv l.length (λk=>⟨[(0,.v (nums .i64 l)),(1,.v (.int .i64 n)),(7,.v (.int .i64 l.length)),(8,.v (.int .i64 k))],[]⟩) (λk=>idxI (((l.drop k).findIdx? λx=>n==x).map (· +k))=R) (by simp[nums]) (by simpa using hR) ?_;intro k hk hI;simp only[Zgl 49 0,awp_seq,awp_reg,awp_block,awp_cond,Zge 49 2];simp[nums];by_cases h1:k <l.length
 ·obtain⟨x,hx⟩:∃x,l[k]?=some x:=⟨_,List.getElem?_eq_getElem h1⟩;have hw:IntKind.i64.wrap ((k:Int)+1)=k+1:=wrap_i64 (by omega) (by omega);rw[drop_cons_get hx,List.findIdx?_cons]at hI;rw[if_pos (by omega),awp_skip];simp only[Zge 49 3,Zge 49 4];simp[hx];by_cases b1:n=x
  ·subst b1;simp[idxI]at hI;simp[Zge 49 5,awp_ret,Zgr 49,hI]
  ·have b2:(n==x)=false:=by simp[b1]
   rw[b2]at hI;have hI':idxI (((l.drop (k+1)).findIdx? λx=>n==x).map (· +(k+1)))=R:=by
    rw[←hI];cases (l.drop (k+1)).findIdx? λx=>n==x with
    |none=>rfl
    |some j=>simp[idxI];omega
   simp[b1,awp_skip,Zge 49 6,hw,h1];exact hI'
 ·have hk2:k=l.length:=by omega
  subst hk2;simp[idxI]at hI;rw[if_neg (by omega),awp_exit];simp[awp_ret,Zge 49 7,Zgr 49,hI]
theorem p316 (l:List Int) (n:Int) (hn:l.length≤2^40):PSp Tryz.prog GLx 25 [nums .i64 l,.int .i64 n] [.bool (l.any λx=>n==x)]:=by
 refine psp_of_awp (Zkk 25) rfl ?_;have q:=(p337 l n hn).fsp;have hge:=idxI_ge (l.findIdx? λx=>n==x);rw[findIdx_any]at hge;generalize idxI (l.findIdx? λx=>n==x)=I at*;generalize (l.any λx=>n==x)=B at*;simp only[Zga 25,awp_seq,awp_reg,Zge 25 0,Zge 25 1,entry];simp[nums]at q ⊢;refine⟨_,_,q _,?_⟩;simp[awp_ret,Zgr 25,resVs];by_cases h0:0≤I
 ·simp[h0,hge.1 h0]
 ·cases B with
  |false=>simp[h0]
  |true=>exact absurd (hge.2 rfl) h0
def liveR (r:Rgt):List Int:=if r.force=0 then ((List.range r.claims.length).map λ(i:Nat)=>(i:Int)).filter λi=> !(r.bad.any λx=>i==x) else []
theorem p273 (r:Rgt) (h1:r.claims.length≤2^30) (h2:r.bad.length≤2^40):PSp Tryz.prog GLx 9 [r.V] [nums .i64 (liveR r)]:=by
 refine psp_of_awp (Zkk 9) rfl ?_;unfold liveR;obtain⟨file,state,force,claims,dates,bad,owners,lics⟩:=r;simp only at h1 h2 ⊢;simp only[Zga 9,awp_seq,awp_reg,awp_block,awp_cond,Zge 9 0,Zge 9 1,Zge 9 2,entry];simp[Rgt.V,Rgt.cs,nums];by_cases hf:force=0
 ·subst hf;obtain⟨P,hP⟩:∃P:Int→Bool,(λi=> !(bad.any λx=>i==x))=P:=⟨_,rfl⟩;simp[awp_skip,Zge 9 4];refine awp_loop_nat0 claims.length (λk=>⟨[(1,.ref 0 0),(3,.own 3 1 ((((List.range k).map λ(i:Nat)=>(i:Int)).filter λi=> !(bad.any λx=>i==x)).map (.int .i64))),(11,.v (.int .i64 claims.length)),(12,.v (.int .i64 k))],
   [.cells ((Rgt.cs ⟨file,state,0,claims,dates,bad,owners,lics⟩).map .v)]⟩) (by simp[Rgt.cs,nums]) ?_
  intro k hk;simp only[Zgl 9 0,awp_seq,awp_reg,awp_block,awp_cond,Zge 9 5];simp[Rgt.cs,nums];by_cases hlt:k <claims.length
  ·have hw:IntKind.i64.wrap ((k:Int)+1)=k+1:=wrap_i64 (by omega) (by omega);have q:=(p316 bad k h2).fsp;rw[if_pos (by omega),awp_skip];have hlen:(((List.range k).map λ(i:Nat)=>(i:Int)).filter λi=> !(bad.any λx=>i==x)).length≤k:=by
    have:=List.length_filter_le (λi=> !(bad.any λx=>i==x)) ((List.range k).map λ(i:Nat)=>(i:Int));simpa using this
   have hs:(((List.range (k+1)).map λ(i:Nat)=>(i:Int)).filter λi=> !(bad.any λx=>i==x))=(((List.range k).map λ(i:Nat)=>(i:Int)).filter λi=> !(bad.any λx=>i==x))++(if (bad.any λx=>(k:Int)==x) then [] else [(k:Int)]):=by
    rw[List.range_succ,List.map_append,List.filter_append]
    congr 1
    simp only[List.map_cons,List.map_nil,List.filter_cons,List.filter_nil];cases (bad.any λx=>(k:Int)==x)<;>rfl
   rw[hs];generalize (((List.range k).map λ(i:Nat)=>(i:Int)).filter λi=> !(bad.any λx=>i==x))=L at*;generalize (bad.any λx=>(k:Int)==x)=B at*;have hroom:roomy (L.length+1) 8=true:=by simp[roomy];omega
   simp[nums]at q;simp only[Zge 9 6,Zge 9 7];simp;refine⟨_,_,q _,?_⟩;cases B with
   |true=>simp[awp_skip,Zge 9 9,hw,hlt]
   |false=>simp[Zge 9 8,hroom,Zge 9 9,hw,hlt]
  ·have hk2:k=claims.length:=by omega
   subst hk2;rw[if_neg (by omega),awp_exit];simp[awp_ret,Zge 9 10,Zgr 9]
 ·simp[hf,Zge 9 3,awp_ret,Zgr 9]
def entN:Nat→List V→List (V×V)
 |_,[]=>[]
 |k,v::vs=>(.int .i64 k,v)::entN (k+1) vs
def mapN (vs:List V):Row:= .map (entN 0 vs) (List.range vs.length) vs.length
theorem entN_app (v:V):∀(vs:List V) (k:Nat),entN k (vs++[v])=entN k vs++[(.int .i64 ((k+vs.length:Nat):Int),v)]
 |[],k=>rfl
 |x::vs,k=>by
  simp only[List.cons_append,entN,entN_app v vs (k+1),List.length_cons];rw[show k+1+vs.length=k+(vs.length+1) by omega]
theorem entN_get:∀(vs:List V) (k i:Nat) (v:V),vs[i]?=some v→(entN k vs)[i]?=some (.int .i64 ((k+i:Nat):Int),v)
 |x::vs,k,0,v,h=>by
  simp at h;subst h;rfl
 |x::vs,k,i+1,v,h=>by
  simp only[entN,List.getElem?_cons_succ];rw[entN_get vs (k+1) i v (by simpa using h),show k+1+i=k+(i+1) by omega]
theorem mfindN (st:Bool) (a:Int):∀(vs:List V) (k:Nat),mfind false [0] (.int .i64 a) (entN k vs)=some (if (k:Int)≤a∧a <k+vs.length then some (a-k).toNat else none)
 |[],k=>by
  rw[if_neg (by simp)];rfl
 |x::vs,k=>by
  have hk:keyOK false [0] (.int .i64 k)=true:=by simp[keyOK,V.eqL,V.eq1,V.cells]
  simp only[entN,mfind,hk,if_true,V.cells,V.eqL,V.eq1,Bool.and_true,mfindN st a vs (k+1),List.length_cons];by_cases h:a=k
  ·subst h;simp;omega
  ·have h2:(a==(k:Int))=false:=by simp[h]
   simp only[h2];by_cases h3:((k+1:Nat):Int)≤a∧a <((k+1:Nat):Int)+vs.length
   ·rw[if_pos h3,if_pos (by omega)];simp;omega
   ·rw[if_neg h3,if_neg (by omega)];rfl
theorem mapN_put (vs:List V) (v:V):Row.map (entN 0 vs++[(.int .i64 (vs.length:Nat),v)]) (List.range vs.length++[vs.length]) (vs.length+1)=mapN (vs++[v]):=by
 unfold mapN;rw[entN_app,List.length_append,List.length_singleton,List.range_succ,Nat.zero_add]
def meanC (acc:List F) (c:Clm):F:=if c.refs=[] then c.body else .mk 4 0 [] [c.body,.mk 5 0 [] (c.refs.map λr=>(acc[r.toNat]?).getD c.body)]
def meanL (l:List Clm):List F:=l.foldl (λacc c=>acc++[meanC acc c]) []
theorem meanL_len (l:List Clm):(meanL l).length=l.length:=by
 have:∀(l:List Clm) (acc:List F),(l.foldl (λacc c=>acc++[meanC acc c]) acc).length=acc.length+l.length:=by
  intro l;induction l with
  |nil=>simp
  |cons c l ih=>intro acc;rw[List.foldl_cons,ih];simp;omega
 have h:=this l [];rw[List.length_nil,Nat.zero_add]at h;exact h
theorem meanL_snoc (l:List Clm) (c:Clm):meanL (l++[c])=meanL l++[meanC (meanL l) c]:=by
 unfold meanL;rw[List.foldl_append];rfl
theorem meanL_take (l:List Clm) {k:Nat} {c:Clm} (h:l[k]?=some c):meanL (l.take (k+1))=meanL (l.take k)++[meanC (meanL (l.take k)) c]:=by
 rw[List.take_add_one,h];exact meanL_snoc _ _
theorem meanL_pre (l:List Clm):∀k,k≤l.length→meanL (l.take k)=(meanL l).take k:=by
 have:∀(l m:List Clm),(meanL (l++m)).take l.length=meanL l:=by
  intro l m;unfold meanL;rw[List.foldl_append];have:∀(m:List Clm) (acc:List F),∃t,m.foldl (λacc c=>acc++[meanC acc c]) acc=acc++t:=by
   intro m;induction m with
   |nil=>intro acc;exact⟨[],by simp⟩
   |cons c m ih=>
    intro acc;obtain⟨t,ht⟩:=ih (acc++[meanC acc c]);exact⟨[meanC acc c]++t,by rw[List.foldl_cons,ht];simp⟩
  obtain⟨t,ht⟩:=this m (l.foldl (λacc c=>acc++[meanC acc c]) []);rw[ht];have:=meanL_len l;unfold meanL at this;rw[List.take_append_of_le_length (by omega),List.take_of_length_le (by omega)]
 intro k hk;have h:=this (l.take k) (l.drop k);rw[List.take_append_drop]at h;rw[←h,List.length_take,Nat.min_eq_left hk]
def meanAt (l:List Clm) (i:Int):F:=((meanL l)[i.toNat]?).getD (.mk 0 0 [] [])
def spoilF (r:Rgt) (how by_:Int):Rgt:=
 let h:=aroundI how 10
 if h=0 then {r with file:=by_}
 else if h=1 then {r with state:=by_}
 else if h=2 then {r with force:=by_}
 else if h=3 then {r with claims:=r.claims++[⟨[by_],.mk 0 0 [] []⟩]}
 else if h=4 then {r with dates:=r.dates++[⟨(r.claims.length:Int)-1,by_,0,0⟩]}
 else if h=5 then {r with dates:=r.dates++[⟨by_,63,by_,0⟩]}
 else if h=6 then {r with bad:=r.bad++[by_]}
 else if h=7 then {r with owners:=r.owners++[⟨by_,1,1⟩]}
 else if h=8 then {r with owners:=r.owners++[⟨4095,by_,2⟩]}
 else {r with lics:=r.lics++[⟨1,2,5,by_⟩]}
theorem spoilF_tiny {m:Nat} {r:Rgt} (h:r.tiny m) (hm:m≤2^40) (how by_:Int) (hb:i64 by_):(spoilF r how by_).tiny (m+1):=by
 have h0:=h.lc;have h1:=h.ld;have h2:=h.lb;have h3:=h.lo;have h4:=h.ll;have hcl:∀c∈r.claims++[⟨[by_],.mk 0 0 [] []⟩],c.tiny:=by
  intro c hc;rcases List.mem_append.1 hc with hc|hc
  ·exact h.claims c hc
  ·simp only[List.mem_singleton]at hc;subst hc;exact⟨by simpa using hb,by simp,(tiny_node (m:=0) (by simp[i64]) (by simp)).mono (by simp)⟩
 have ap:∀ {α:Type} {P:α→Prop} {l:List α} {x:α},(∀y∈l,P y)→P x→∀y∈l++[x],P y:=by
  intro α P l x h1 h2 y hy;rcases List.mem_append.1 hy with hy|hy
  ·exact h1 y hy
  ·simp only[List.mem_singleton]at hy;subst hy;exact h2
 have z:i64 0:=by simp[i64]
 unfold spoilF;simp only
 repeat' split
 ·exact⟨hb,h.state,h.force,h.claims,h.dates,h.bad,h.owners,h.lics,by simp only;omega,by simp only;omega,by simp only;omega,by simp only;omega,by simp only;omega⟩
 ·exact⟨h.file,hb,h.force,h.claims,h.dates,h.bad,h.owners,h.lics,by simp only;omega,by simp only;omega,by simp only;omega,by simp only;omega,by simp only;omega⟩
 ·exact⟨h.file,h.state,hb,h.claims,h.dates,h.bad,h.owners,h.lics,by simp only;omega,by simp only;omega,by simp only;omega,by simp only;omega,by simp only;omega⟩
 ·exact⟨h.file,h.state,h.force,hcl,h.dates,h.bad,h.owners,h.lics,by simpa using h0,by simp only;omega,by simp only;omega,by simp only;omega,by simp only;omega⟩
 ·exact⟨h.file,h.state,h.force,h.claims,ap h.dates ⟨by unfold i64;simp only;omega,hb,z,z⟩,h.bad,h.owners,h.lics,by simp only;omega,by simpa using h1,by simp only;omega,by simp only;omega,by simp only;omega⟩
 ·exact⟨h.file,h.state,h.force,h.claims,ap h.dates ⟨hb,by simp[i64],hb,z⟩,h.bad,h.owners,h.lics,by simp only;omega,by simpa using h1,by simp only;omega,by simp only;omega,by simp only;omega⟩
 ·exact⟨h.file,h.state,h.force,h.claims,h.dates,ap h.bad hb,h.owners,h.lics,by simp only;omega,by simp only;omega,by simpa using h2,by simp only;omega,by simp only;omega⟩
 ·exact⟨h.file,h.state,h.force,h.claims,h.dates,h.bad,ap h.owners ⟨hb,by simp[i64],by simp[i64]⟩,h.lics,by simp only;omega,by simp only;omega,by simp only;omega,by simpa using h3,by simp only;omega⟩
 ·exact⟨h.file,h.state,h.force,h.claims,h.dates,h.bad,ap h.owners ⟨by simp[i64],hb,by simp[i64]⟩,h.lics,by simp only;omega,by simp only;omega,by simp only;omega,by simpa using h3,by simp only;omega⟩
 ·exact⟨h.file,h.state,h.force,h.claims,h.dates,h.bad,h.owners,ap h.lics ⟨by simp[i64],by simp[i64],by simp[i64],hb⟩,by simp only;omega,by simp only;omega,by simp only;omega,by simp only;omega,by simpa using h4⟩
theorem ho_dat (l:List Dat):headOK 4 (l.map Dat.V)=true:=by cases l<;>rfl
theorem ho_own (l:List Own):headOK 3 (l.map Own.V)=true:=by cases l<;>rfl
theorem ho_lic (l:List Lic):headOK 4 (l.map Lic.V)=true:=by cases l<;>rfl
theorem ho_clm (l:List Clm):headOK 5 (l.map Clm.V)=true:=by cases l<;>rfl
set_option maxRecDepth 100000 in
set_option maxHeartbeats 2000000 in
theorem p12 {m:Nat} (r:Rgt) (ht:r.tiny m) (hm:m≤2^20) (how by_:Int):PSp Tryz.prog GLx 6 [r.V,.int .i64 how,.int .i64 by_] [(spoilF r how by_).V]:=by
 refine psp_of_awp (Zkk 6) rfl ?_;have p1:=(p11 how 10 (by decide)).fsp;have r0:=ht.lc;have r1:=ht.ld;have r2:=ht.lb;have r3:=ht.lo;have r4:=ht.ll;have b0:roomy (r.claims.length+1) 88=true:=by simp[roomy];omega
 have b1:roomy (r.dates.length+1) 32=true:=by simp[roomy];omega
 have b2:roomy (r.bad.length+1) 8=true:=by simp[roomy];omega
 have b3:roomy (r.owners.length+1) 24=true:=by simp[roomy];omega
 have b4:roomy (r.lics.length+1) 32=true:=by simp[roomy];omega
 have d0:roomy r.claims.length 88=true:=by simp[roomy];omega
 have d1:roomy r.dates.length 32=true:=by simp[roomy];omega
 have d2:roomy r.bad.length 8=true:=by simp[roomy];omega
 have d3:roomy r.owners.length 24=true:=by simp[roomy];omega
 have d4:roomy r.lics.length 32=true:=by simp[roomy];omega
 have w1:IntKind.i64.wrap ((r.claims.length:Int)-1)=r.claims.length-1:=wrap_i64 (by omega) (by omega);have hs:spoilF r how by_=spoilF r how by_:=rfl;obtain⟨S,hS⟩:∃S,spoilF r how by_=S:=⟨_,rfl⟩;rw[hS];unfold spoilF at hS;generalize aroundI how 10=h at*;simp at p1;simp only[Zga 6,awp_seq,awp_reg,awp_block,Zge 6 0,Zge 6 1,entry];simp[Rgt.V,Rgt.cs,nums,putL,d1,ho_dat];simp[Zge 6 2,d2];simp[Zge 6 3,d3,ho_own];simp[Zge 6 4,d4,ho_lic,Zge 6 5];refine⟨_,_,p1 _,?_⟩;simp only[awp_seq,awp_reg,awp_cond,Zge 6 7];simp;by_cases h0:h=0
 ·subst h0;simp at hS;subst hS;simp[Zge 6 8,putL,Zge 6 25,awp_ret,Zgr 6,D.vs?,D.v?]
 by_cases h1:h=1
 ·subst h1;simp at hS;subst hS;simp[Zge 6 9,Zge 6 10,putL,Zge 6 25,awp_ret,Zgr 6,D.vs?,D.v?]
 by_cases h2:h=2
 ·subst h2;simp at hS;subst hS;simp[Zge 6 9,Zge 6 11,Zge 6 12,putL,Zge 6 25,awp_ret,Zgr 6,D.vs?,D.v?]
 by_cases h3:h=3
 ·subst h3;simp at hS;subst hS;simp[Zge 6 9,Zge 6 11,Zge 6 13,Zge 6 14,putL,b0,d0,ho_clm,Zge 6 25,awp_ret,Zgr 6,D.vs?,D.v?,Clm.V,F.op,F.n,F.ins,F.kids,nums]
 by_cases h4:h=4
 ·subst h4;simp at hS;subst hS;simp[Zge 6 9,Zge 6 11,Zge 6 13,Zge 6 15,Zge 6 16,putL,b1,w1,Zge 6 25,awp_ret,Zgr 6,D.vs?,D.v?,Dat.V]
 by_cases h5:h=5
 ·subst h5;simp at hS;subst hS;simp[Zge 6 9,Zge 6 11,Zge 6 13,Zge 6 15,Zge 6 17,Zge 6 18,putL,b1,Zge 6 25,awp_ret,Zgr 6,D.vs?,D.v?,Dat.V]
 by_cases h6:h=6
 ·subst h6;simp at hS;subst hS;simp[Zge 6 9,Zge 6 11,Zge 6 13,Zge 6 15,Zge 6 17,Zge 6 19,Zge 6 20,putL,b2,Zge 6 25,awp_ret,Zgr 6,D.vs?,D.v?]
 by_cases h7:h=7
 ·subst h7;simp at hS;subst hS;simp[Zge 6 9,Zge 6 11,Zge 6 13,Zge 6 15,Zge 6 17,Zge 6 19,Zge 6 21,Zge 6 22,putL,b3,Zge 6 25,awp_ret,Zgr 6,D.vs?,D.v?,Own.V]
 by_cases h8:h=8
 ·subst h8;simp at hS;subst hS;simp[Zge 6 9,Zge 6 11,Zge 6 13,Zge 6 15,Zge 6 17,Zge 6 19,Zge 6 21,Zge 6 23,Zge 6 24,putL,b3,Zge 6 25,awp_ret,Zgr 6,D.vs?,D.v?,Own.V]
 simp[h0,h1,h2,h3,h4,h5,h6,h7,h8]at hS;subst hS;simp[h0,h1,h2,h3,h4,h5,h6,h7,h8,Zge 6 9,Zge 6 11,Zge 6 13,Zge 6 15,Zge 6 17,Zge 6 19,Zge 6 21,Zge 6 23,Zge 6 6,putL,b4,Zge 6 25,awp_ret,Zgr 6,D.vs?,D.v?,Lic.V]
set_option maxRecDepth 100000 in
theorem l317i (X:List Row) (mx:Nat) (acc:List F) (hmx:X[mx]?=some (mapN (acc.map F.V))) (C Fr:Row) (refs:List Int) (hrefs:∀r∈refs,0≤r∧r <acc.length) (hn:refs.length≤8) (df:F) (v6 v19 v20 v21:V) (a7 a8:Nat) (Q:AExit→St→Prop)
  (hQ:∀e J,find e 5= .mref mx→find e 6= .v v6→find e 7= .ref a7 0→find e 8= .ref a8 0→find e 9= .v (.bool true)→find e 10= .ref (X.length+2) 0→find e 19= .v v19→find e 20= .v v20→find e 21= .v v21→
   Q (.exit 2) ⟨e,X++(C::Fr:: .cells [.v (.int .i64 5),.v (.int .i64 0),.own 167 8 [],.own 71 4 ((refs.map λr=>(acc[r.toNat]?).getD df).map F.V)]::J)⟩):
  awp Tryz.prog GLx (.loop (lG 52 1)) Q ⟨[(5,.mref mx),(6,.v v6),(7,.ref a7 0),(8,.ref a8 0),(9,.v (.bool true)),(10,.ref (X.length+2) 0),(19,.v v19),(20,.v v20),(21,.v v21),(34,.v (nums .i64 refs)),(35,.v (.int .i64 refs.length)),(36,.v (.int .i64 (0:Nat)))],
   X++[C,Fr,.cells [.v (.int .i64 5),.v (.int .i64 0),.own 167 8 [],.own 71 4 []]]⟩:=by
 refine awp_loop_I refs.length (λk s=>∃J,s=⟨[(5,.mref mx),(6,.v v6),(7,.ref a7 0),(8,.ref a8 0),(9,.v (.bool true)),(10,.ref (X.length+2) 0),(19,.v v19),(20,.v v20),(21,.v v21),(34,.v (nums .i64 refs)),(35,.v (.int .i64 refs.length)),(36,.v (.int .i64 k))],
   X++(C::Fr:: .cells [.v (.int .i64 5),.v (.int .i64 0),.own 167 8 [],.own 71 4 (((refs.take k).map λr=>(acc[r.toNat]?).getD df).map F.V)]::J)⟩) ⟨[],by simp⟩ ?_
 rintro k s hk ⟨J,rfl⟩;simp only[Zgl 52 1,awp_seq,awp_reg,awp_block,awp_cond,Zge 52 9];simp[nums];by_cases hkl:k <refs.length
 ·obtain⟨r,hr⟩:∃r,refs[k]?=some r:=⟨_,List.getElem?_eq_getElem hkl⟩;have hrr:=hrefs r (List.mem_of_getElem? hr);obtain⟨g,hg⟩:∃g,acc[r.toNat]?=some g:=⟨_,List.getElem?_eq_getElem (by omega)⟩;have hget:∀Z,(X++Z)[mx]?=some (.map (entN 0 (acc.map F.V)) (List.range (acc.map F.V).length) (acc.map F.V).length):=λZ=>get_old Z hmx;have hf:mfind false [0] (.int .i64 r) (entN 0 (acc.map F.V))=some (some r.toNat):=by
   rw[mfindN false,if_pos (by simp;omega)];simp
  have hgv:(entN 0 (acc.map F.V))[r.toNat]?=some (.int .i64 r,g.V):=by
   have:=entN_get (acc.map F.V) 0 r.toNat g.V (by simp[hg]);rw[this];simp;omega
  have w1:IntKind.i64.wrap ((k:Int)+1)=k+1:=wrap_i64 (by omega) (by omega);have hroom:roomy (k+1) 64=true:=by simp[roomy];omega
  have hm:min k refs.length=k:=by omega
  have htk:(refs.map (F.V ∘ λr=>acc[r.toNat]?.getD df)).take (k+1)=(refs.map (F.V ∘ λr=>acc[r.toNat]?.getD df)).take k++[g.V]:=by rw[List.take_add_one,List.getElem?_map,hr];simp[hg]
  rw[htk];obtain⟨go,gn,gi,gk⟩:=g;simp only[F.V_eq]at hgv;rw[if_pos (by omega),awp_skip];simp only[Zge 52 10,Zge 52 11];simp[hr,hget,keyOK,V.eqL,V.eq1,hf,hgv,lookD];simp[putL,Zge 52 12,hm,hroom,Zge 52 13,w1,hkl,F.V_eq]
 ·have hk2:k=refs.length:=by omega
  subst hk2;rw[if_neg (by omega),awp_exit];change Q (.exit 2) _;rw[List.take_of_length_le (by simp),←List.map_map];refine hQ _ J ?_ ?_ ?_ ?_ ?_ ?_ ?_ ?_ ?_<;>rfl
structure MeanOK (T:List Clm):Prop where
 len:T.length≤32
 ok:∀c∈T,Clm.ok c
 refs:∀c∈T,c.refs.length≤8
 low:∀(k:Nat) (c:Clm),T[k]?=some c→∀r∈c.refs,0≤r∧r <k
 mean:∀f∈meanL T,f.ok∧formE f=0
def c317T:AC:=(.seq (.reg (oG 52 15) [5,6,8,19,20,21,67]) (.cond (.t 67 false) (.reg (oG 52 16) [5,19,20,21]) .skip))
def c317B:AC:=(.seq (.seq (.reg (oG 52 6) [5,6,7,8,9,19,20,21,31]) (.cond (.t 31 false) (.seq (.reg (oG 52 7) [5,6,7,8,9,10,19,20,21]) (.seq (.seq (.reg (oG 52 8) [5,6,7,8,9,10,19,20,21,34,35,36]) (.block 2 (.loop (lG 52 1)))) (.reg (oG 52 14) [5,6,8,9,19,20,21]))) .skip)) c317T)
theorem c317l0_eq:(lG 52 0)=(.seq (.reg (oG 52 3) [5,19,20,21,22]) (.seq (.cond (.t 22 false) .skip (.exit 0)) (.seq (.block 1 (.seq (.reg (oG 52 4) [5,6,7,19,20,21]) (.seq (.reg (oG 52 5) [5,6,7,8,9,19,20,21]) c317B))) (.reg (oG 52 17) [5,19,20,21])))):=(Zgl 52 0 :)
set_option maxRecDepth 100000 in
theorem l317z (h:List Row) (acc:List F) (f:F) (hf:f.ok∧formE f=0) (k:Nat) (hk:acc.length=k) (v19 v20:V) (J:List Row) (a8:Nat) (Q:AExit→St→Prop)
  (hQ:∀e J,find e 5= .mref h.length→find e 19= .v v19→find e 20= .v v20→find e 21= .v (.int .i64 k)→Q .normal ⟨e,h++mapN ((acc++[f]).map F.V)::J⟩)
  (ds:List D) (hcp:ds.map D.copy=[.v (.int .i64 f.op),.v (.int .i64 f.n),.v (.list (f.ins.map Ivl.V)),.v (.list (f.kids.map F.V))]) (hJ:(h++mapN (acc.map F.V)::J)[a8]?=some (.cells ds)):
  ∀e,find e 5= .mref h.length→find e 6= .v (.int .i64 k)→find e 8= .ref a8 0→find e 9= .v (.bool true)→find e 19= .v v19→find e 20= .v v20→find e 21= .v (.int .i64 k)→
   awp Tryz.prog GLx c317T Q ⟨e,h++mapN (acc.map F.V)::J⟩:=by
 intro e f5 f6 f8 f9 f19 f20 f21;have q:=(p66 f hf.1).fsp;rw[hf.2]at q;have hmf:mfind false [0] (.int .i64 k) (entN 0 (acc.map F.V))=some none:=by
  rw[mfindN false,if_neg (by simp;omega)]
 have hput:=mapN_put (acc.map F.V) f.V;rw[←List.map_singleton (f:=F.V),←List.map_append,List.length_map,hk]at hput;have hmr:mapN (acc.map F.V)= .map (entN 0 (acc.map F.V)) (List.range k) k:=by unfold mapN;rw[List.length_map,hk]
 rw[hmr]at hJ ⊢;obtain⟨op,n,ins,kids⟩:=f;simp only[F.V_eq,F.op,F.n,F.ins,F.kids]at q hcp hput;have hdl:ds.length=4:=by have:=congrArg List.length hcp;simpa using this
 simp only[c317T,awp_seq,awp_reg,awp_cond,Zge 52 15];simp[f8,f9,hJ,hcp,hdl]at q ⊢;refine⟨_,_,q _,?_⟩;simp[Zge 52 16,f5,f6,f8,f19,f20,f21,hJ,hcp,hdl,keyOK,V.eqL,V.eq1,hmf];rw[hput];exact hQ _ _ rfl rfl rfl rfl
theorem MeanOK.take {l:List Clm} (h:MeanOK l) (k:Nat) (hk:k≤l.length):MeanOK (l.take k) where
 len:=by have:=h.len;rw[List.length_take];omega
 ok:=λc hc=>h.ok c (List.mem_of_mem_take hc)
 refs:=λc hc=>h.refs c (List.mem_of_mem_take hc)
 low:=λj c hj=>h.low j c (by rw[List.getElem?_take]at hj;split at hj;exact hj;cases hj)
 mean:=λf hf=>h.mean f (by rw[meanL_pre l k hk]at hf;exact List.mem_of_mem_take hf)
def clmV (p:Int×Int):V:= .agg [.int .i64 p.1,.int .i64 p.2]
def againstR (I:Int→Int→Bool) (t:Th) (r:Rgt):List (Int×Int):=((liveR r).filter λi=>(meanAt r.claims i).hold I t).map λi=>(r.file,i)
def againstL (I:Int→Int→Bool) (t:Th) (rs:List Rgt):List (Int×Int):=rs.flatMap (againstR I t)
theorem liveR_lt {r:Rgt} {i:Int} (h:i∈liveR r):0≤i∧i <r.claims.length:=by
 unfold liveR at h;split at h
 ·obtain⟨k,hk,rfl⟩:=List.mem_map.1 (List.mem_filter.1 h).1;have:=List.mem_range.1 hk;omega
 ·cases h
theorem liveR_len (r:Rgt):(liveR r).length≤r.claims.length:=by
 unfold liveR;split
 ·have:=List.length_filter_le (λi=> !(r.bad.any λx=>i==x)) ((List.range r.claims.length).map λ(i:Nat)=>(i:Int));simpa using this
 ·simp
structure Rgt.fine (nc:Int) (r:Rgt):Prop where
 bad:r.bad.length≤2^40
 mean:MeanOK r.claims
 z:clmsE r.claims=0
 cls:∀f∈meanL r.claims,f.nodes.all (okC nc)=true
theorem Rgt.fine.meanAt {nc:Int} {r:Rgt} (h:r.fine nc) {i:Int} (hi:0≤i∧i <r.claims.length):meanAt r.claims i∈meanL r.claims:=by
 unfold Go.Va.meanAt;have hl:=meanL_len r.claims;have hx:(meanL r.claims)[i.toNat]?=some (meanL r.claims)[i.toNat]:=List.getElem?_eq_getElem (by omega);rw[hx];exact List.getElem_mem _
def Lows (J:List Row):Prop:=∀row∈J,∀n,Row.low n row=true
theorem Lows.nil:Lows []:=λrow h=>by cases h
theorem Lows.app {J:List Row} (h:Lows J) {row:Row} (hr:∀n,row.low n=true):Lows (J++[row]):=by
 intro x hx n;rcases List.mem_append.1 hx with hx|hx
 ·exact h x hx n
 ·rw[List.mem_singleton.1 hx];exact hr n
theorem Low.lows {h J:List Row} (hl:Low h) (hJ:Lows J):Low (h++J):=hl.apps λrow hr=>hJ row hr _
mutual
def Th.size:Th→Nat| .mk _ _ ps=>1+Th.sizes ps
def Th.sizes:List Th→Nat|[]=>0|k::ks=>k.size+Th.sizes ks
end
mutual
def Th.depth:Th→Nat| .mk _ _ ps=>Th.depths ps+1
def Th.depths:List Th→Nat|[]=>0|k::ks=>max k.depth (Th.depths ks)
end
theorem Th.size_pos (t:Th):1≤t.size:=by cases t;rw[Th.size];omega
theorem Th.sizes_take {l:List Th} {k:Nat} {x:Th} (hx:l[k]?=some x):Th.sizes (l.take (k+1))=Th.sizes (l.take k)+x.size∧Th.depths (l.take (k+1))=max (Th.depths (l.take k)) x.depth∧Th.sizes (l.take (k+1))≤Th.sizes l:=by
 induction l generalizing k with
 |nil=>simp at hx
 |cons y l ih=>
  cases k with
  |zero=>simp at hx;subst hx;simp[Th.sizes,Th.depths]
  |succ k=>simp at hx;have:=ih hx;simp only[List.take_succ_cons,Th.sizes,Th.depths];omega
theorem Th.sizes_le {l:List Th} {x:Th} (hx:x∈l):x.size≤Th.sizes l:=by
 induction l with
 |nil=>cases hx
 |cons y l ih=>
  rw[Th.sizes];cases hx with
  |head=>omega
  |tail _ h=>have:=ih h;omega
theorem Th.depths_le (l:List Th) (h:∀x∈l,x.depth≤x.size):Th.depths l≤Th.sizes l:=by
 induction l with
 |nil=>simp[Th.depths]
 |cons k ks ih=>
  have:=h k (by simp);have:=ih λx hx=>h x (by simp[hx]);simp only[Th.depths,Th.sizes];omega
theorem Th.depth_le:∀t:Th,t.depth≤t.size:=by
 refine Th.ind λcs vs ps ih=>?_;have:=Th.depths_le ps ih;rw[Th.size,Th.depth];omega
theorem Th.len_le (l:List Th):l.length≤Th.sizes l:=by
 induction l with
 |nil=>simp
 |cons k ks ih=>have:=k.size_pos;simp only[Th.sizes,List.length_cons];omega
theorem Th.nds_of (l:List Th) (h:∀x∈l,∀lv lf:Int,x.nd lv lf=if lv+x.depth≤9∧x.size≤lf then lf-x.size else -1):∀lv lf:Int,lv≤9→0≤lf→Th.nds l lv lf=if lv+Th.depths l≤9∧Th.sizes l≤lf then lf-Th.sizes l else -1:=by
 induction l with
 |nil=>intro lv lf h1 h2;simp[Th.nds,Th.depths,Th.sizes,h1,h2]
 |cons x xs ih=>
  intro lv lf h1 h2;have hx:=h x (by simp) lv lf;have hp:=x.size_pos;rw[Th.nds,hx];have e1:Th.depths (x::xs)=max x.depth (Th.depths xs):=rfl;have e2:Th.sizes (x::xs)=x.size+Th.sizes xs:=rfl;by_cases c1:lv+x.depth≤9∧x.size≤lf
  ·rw[if_pos c1,if_neg (by omega),ih (λy hy=>h y (by simp[hy])) lv _ h1 (by omega)];by_cases c2:lv+Th.depths xs≤9∧Th.sizes xs≤lf-x.size
   ·rw[if_pos c2,if_pos (by omega)];omega
   ·rw[if_neg c2,if_neg (by omega)]
  ·rw[if_neg c1,if_pos (by omega),if_neg (by omega)]
theorem Th.nd_of:∀(t:Th) (lv lf:Int),t.nd lv lf=if lv+t.depth≤9∧t.size≤lf then lf-t.size else -1:=by
 refine Th.ind λcs vs ps ih lv lf=>?_;rw[Th.nd,Th.size,Th.depth];by_cases c1:8 <lv∨lf <1
 ·rw[if_pos c1,if_neg (by omega)]
 ·rw[if_neg c1,Th.nds_of ps ih _ _ (by omega) (by omega)];by_cases c2:lv+1+Th.depths ps≤9∧Th.sizes ps≤lf-1
  ·rw[if_pos c2,if_pos (by omega)];omega
  ·rw[if_neg c2,if_neg (by omega)]
theorem limT_of (t:Th):limT t=decide (t.depth≤8∧t.size≤96):=by
 have:=t.size_pos;unfold limT;rw[t.nd_of];by_cases c:t.depth≤8∧t.size≤96
 ·rw[if_pos (by omega)];simp[c];omega
 ·rw[if_neg (by omega)];simp;omega
theorem p195:∀t:Th,t.size≤2^40→PSp Tryz.prog GLx 53 [t.V] [.int .i64 t.size]:=by
 refine Th.ind λcs vs ps ih hsz=>?_;refine psp_of_awp (Zkk 53) rfl ?_;rw[Th.size]at hsz ⊢;have hkl:=Th.len_le ps;simp only[Zga 53,awp_seq,awp_reg,awp_block,Zge 53 0,Zge 53 1,Zge 53 2,entry];simp[Th.V_eq];refine awp_loop_nat0 ps.length (λk=>⟨[(1,.ref 0 0),(3,.v (.int .i64 (1+Th.sizes (ps.take k):Nat))),(4,.v (.int .i64 k))],[.cells (Th.mk cs vs ps).cells]⟩) (by simp[Th.cells,Th.cs,Th.vs,Th.ps,Th.sizes]) ?_;intro k hk;simp only[Zgl 53 0,awp_seq,awp_reg,awp_block,awp_cond,Zge 53 3,Th.cells,Th.cs,Th.vs,Th.ps];simp;by_cases h1:k <ps.length
 ·obtain⟨x,hx⟩:∃x,ps[k]?=some x:=⟨_,List.getElem?_eq_getElem h1⟩;have hxm:=List.mem_of_getElem? hx;have hw:IntKind.i64.wrap ((k:Int)+1)=k+1:=wrap_i64 (by omega) (by omega);have hxs:=Th.sizes_le hxm;have p1:=(ih x hxm (by omega)).fsp;obtain⟨t1,_,t3⟩:=Th.sizes_take hx;have hw2:IntKind.i64.wrap (1+(Th.sizes (ps.take k):Int)+x.size)=1+(Th.sizes (ps.take (k+1)):Int):=by
   rw[wrap_i64 (by omega) (by omega)];omega
  rw[if_pos (by omega),awp_skip];simp only[Zge 53 4,Zge 53 5];obtain⟨xc,xv,xp⟩:=x;simp[Th.V_eq]at p1;simp[hx,Th.V_eq];refine⟨_,_,p1 _,?_⟩;simp[hw,hw2,h1]
 ·have hk2:k=ps.length:=by omega
  subst hk2;rw[if_neg (by omega),awp_exit];simp[awp_ret,Zge 53 6,Zgr 53]
theorem p196:∀t:Th,t.size≤2^40→PSp Tryz.prog GLx 54 [t.V] [.int .i64 t.depth]:=by
 refine Th.ind λcs vs ps ih hsz=>?_;refine psp_of_awp (Zkk 54) rfl ?_;rw[Th.size]at hsz;have hkl:=Th.len_le ps;have hdl:=Th.depths_le ps λx _=>x.depth_le;simp only[Zga 54,awp_seq,awp_reg,awp_block,Zge 54 0,Zge 54 1,Zge 54 2,entry];simp[Th.V_eq];refine awp_loop_nat0 ps.length (λk=>⟨[(1,.ref 0 0),(3,.v (.int .i64 (Th.depths (ps.take k)))),(4,.v (.int .i64 k))],[.cells (Th.mk cs vs ps).cells]⟩) (by simp[Th.cells,Th.cs,Th.vs,Th.ps,Th.depths]) ?_;intro k hk;simp only[Zgl 54 0,awp_seq,awp_reg,awp_block,awp_cond,Zge 54 3,Th.cells,Th.cs,Th.vs,Th.ps];simp;by_cases h1:k <ps.length
 ·obtain⟨x,hx⟩:∃x,ps[k]?=some x:=⟨_,List.getElem?_eq_getElem h1⟩;have hxm:=List.mem_of_getElem? hx;have hw:IntKind.i64.wrap ((k:Int)+1)=k+1:=wrap_i64 (by omega) (by omega);have hxs:=Th.sizes_le hxm;have p1:=(ih x hxm (by omega)).fsp;obtain⟨_,ht,_⟩:=Th.sizes_take hx;rw[if_pos (by omega),awp_skip];simp only[Zge 54 4,Zge 54 5];obtain⟨xc,xv,xp⟩:=x;simp[Th.V_eq]at p1;simp[hx,Th.V_eq];refine⟨_,_,p1 _,?_⟩;simp[hw,h1,ht];split<;>omega
 ·have hk2:k=ps.length:=by omega
  subst hk2;rw[if_neg (by omega),awp_exit];have hw2:IntKind.i64.wrap ((Th.depths ps:Int)+1)=Th.depths ps+1:=wrap_i64 (by omega) (by omega);simp[awp_ret,Zge 54 6,Zgr 54,hw2,Th.depth]
theorem l319 (m:Nat):∀(a b:Int),b≤m→0≤a→0≤b→a≤2^62→b≤2^62→
  awp Tryz.prog GLx (.loop (lG 133 0)) (λe s=>e= .exit 0∧find s.e 0= .v (.int .i64 (Int.gcd a b))) ⟨[(0,.v (.int .i64 a)),(1,.v (.int .i64 b))],[]⟩:=by
 induction m with
 |zero=>
  intro a b hb h1 h2 h3 h4;have:b=0:=by omega
  subst this;refine awp_loop_end ?_;simp only[Zgl 133 0,awp_seq,awp_reg,awp_block,awp_cond,Zge 133 1];simp[awp_exit];omega
 |succ m ih=>
  intro a b hb h1 h2 h3 h4;by_cases h0:b=0
  ·exact ih a b (by omega) h1 h2 h3 h4
  ·have e:a.tmod b=a%b:=Int.tmod_eq_emod_of_nonneg h1;have hlt:=Int.emod_lt_of_pos a (show 0 <b by omega);have hge:=Int.emod_nonneg a h0;have hih:=ih b (a%b) (by omega) h2 hge h4 (by omega);have e2:Int.gcd b (a%b)=Int.gcd a b:=by
    rw[←e];unfold Int.gcd;rw[Int.natAbs_tmod,Nat.gcd_comm,←Nat.gcd_rec,Nat.gcd_comm]
   rw[e2]at hih;refine awp_loop_one ?_ hih;simp only[Zgl 133 0,awp_seq,awp_reg,awp_block,awp_cond,Zge 133 1];have w1:IntKind.i64.wrap (a%b)=a%b:=wrap_i64 (by omega) (by omega);have hpos:0 <b:=by omega
   simp[awp_skip,Zge 133 2,Zge 133 3,Zge 133 4,e,h0,hpos]
theorem p319 (a b:Int) (h1:0≤a) (h2:0≤b) (h3:a≤2^62) (h4:b≤2^62):PSp Tryz.prog GLx 133 [.int .i64 a,.int .i64 b] [.int .i64 (Int.gcd a b)]:=by
 refine psp_of_awp (Zkk 133) rfl ?_;simp only[Zga 133,awp_seq,awp_block,awp_reg,Zge 133 0,entry];simp;refine awp_mono _ ?_ (l319 b.toNat a b (by omega) h1 h2 h3 h4);rintro e s ⟨rfl,h⟩;simp[Zge 133 5,h,awp_ret,Zgr 133]
theorem p281 (x:Val) (hx:x.ok):PSp Tryz.prog GLx 95 [ratV x.n x.d] [.bool (valOK x)]:=by
 refine psp_of_awp (Zkk 95) rfl ?_;simp only[Zga 95,awp_seq,awp_reg,awp_cond,Zge 95 0,Zge 95 1,entry];unfold valOK okR;obtain⟨a,n,d⟩:=x;simp only;by_cases b1:d <1
 ·simp[ratV,b1,awp_ret,Zge 95 2,Zgr 95]<;>omega
 by_cases b2:65536 <d
 ·simp[ratV,b1,b2,awp_ret,Zge 95 2,Zgr 95]<;>omega
 by_cases b4:n < -1099511627776
 ·simp[ratV,b1,b2,b4,awp_ret,Zge 95 2,Zgr 95]<;>omega
 by_cases b3:1099511627776 <n
 ·simp[ratV,b1,b2,b3,b4,awp_ret,Zge 95 2,Zgr 95]<;>omega
 have hw:IntKind.i64.wrap (-n)= -n:=wrap_i64 (by omega) (by omega);simp[ratV,b1,b2,b3,b4,awp_skip];simp only[Zge 95 3];simp[hw];have hg:Int.gcd (if n < -n then -n else n) d=Int.gcd n d:=by split<;>simp
 have q:=(p319 (if n < -n then -n else n) d (by split<;>omega) (by omega) (by split<;>omega) (by omega)).fsp
 rw[hg]at q;refine⟨_,_,q _,?_⟩;simp[awp_ret,Zgr 95];rw[Bool.eq_iff_iff];simp;omega
theorem l197a (cs:List Int) (vs:List Val) (ps:List Th) (hn:cs.length≤2^40) (Q:AExit→St→Prop)
  (hr:∀e h,incC cs 64=false→find e 2= .v (.bool false)→Q .ret ⟨e,h⟩)
  (hs:∀e h,incC cs 64=true→find e 1= .ref 0 0→h=[.cells (Th.mk cs vs ps).cells]→Q (.exit 0) ⟨e,h⟩):
  awp Tryz.prog GLx (.loop (lG 55 0)) Q ⟨[(1,.ref 0 0),(3,.v (.int .i64 0))],[.cells (Th.mk cs vs ps).cells]⟩:=by
 refine awp_loop_inv cs.length (λk=>⟨[(1,.ref 0 0),(3,.v (.int .i64 k))],[.cells (Th.mk cs vs ps).cells]⟩) (λk=>∀j <k,badC cs 64 j=false) (by simp) (by omega) ?_;intro k hk hI;simp only[Zgl 55 0,awp_seq,awp_reg,awp_block,awp_cond,Zge 55 2,Th.cells,Th.cs,Th.vs,Th.ps,nums];simp;by_cases h1:k <cs.length
 ·obtain⟨x,hx⟩:∃x,cs[k]?=some x:=⟨_,List.getElem?_eq_getElem h1⟩;have hw:IntKind.i64.wrap ((k:Int)+1)=k+1:=wrap_i64 (by omega) (by omega);have hb:badC cs 64 k=true↔(x <0∨64≤x∨(0 <k∧x≤cs.getD (k-1) 0)):=by unfold badC;rw[decide_eq_true_iff];simp[List.getD,hx]
  have hf:¬(x <0∨64≤x∨(0 <k∧x≤cs.getD (k-1) 0))→badC cs 64 k=false:=λh=>by
   cases h':badC cs 64 k with
   |true=>exact absurd (hb.1 h') h
   |false=>rfl
  have ret:badC cs 64 k=true→incC cs 64=false:=λh=>by unfold incC;rw[any_bad h1 h];rfl
  have go:badC cs 64 k=false→∀j <k+1,badC cs 64 j=false:=λh j hj=>by
   rcases Nat.lt_or_ge j k with h'|h'
   ·exact hI j h'
   ·have:j=k:=by omega
    subst this;exact h
  rw[if_pos (by omega),awp_skip];simp only[Zge 55 4,Zge 55 5];simp[hx];by_cases b1:x <0
  ·simp[b1,awp_ret,Zge 55 6];exact hr _ _ (ret (hb.2 (.inl b1))) rfl
  ·by_cases b2:63 <x
   ·simp[b1,b2,awp_ret,Zge 55 6];exact hr _ _ (ret (hb.2 (.inr (.inl (by omega))))) rfl
   ·cases k with
    |zero=>
     have hbf:badC cs 64 0=false:=hf (by omega);have hw1:IntKind.i64.wrap 1=1:=rfl;simp[hw1,b1,b2,awp_skip,Zge 55 3,h1,hbf]
    |succ j=>
     have hw3:IntKind.i64.wrap (j:Int)=j:=wrap_i64 (by omega) (by omega);have hpos:(0:Int) <(j:Int)+1:=by omega
     obtain⟨y,hy⟩:∃y,cs[j]?=some y:=⟨_,List.getElem?_eq_getElem (by omega)⟩;simp only[Int.natCast_add,Int.cast_ofNat_Int]at hw;by_cases b3:x≤y
     ·simp[b1,b2,b3,hw3,hy,awp_ret,Zge 55 6];exact hr _ _ (ret (hb.2 (.inr (.inr ⟨by omega,by simp[List.getD,hy,b3]⟩)))) rfl
     ·have hbf:badC cs 64 (j+1)=false:=hf (by simp[List.getD,hy];omega);simp[b1,b2,b3,hw3,hy,awp_skip,Zge 55 3,hw,h1];exact go hbf
 ·have hk2:k=cs.length:=by omega
  subst hk2;rw[if_neg (by omega),awp_exit];refine hs _ _ ?_ rfl rfl;unfold incC;rw[any_good hI];rfl
theorem l197b (cs:List Int) (vs:List Val) (ps:List Th) (hn:vs.length≤2^40) (hv:∀x∈vs,Val.ok x) (Q:AExit→St→Prop)
  (hr:∀e h,(vs.all valOK&&incC (vs.map Val.a) 32)=false→find e 2= .v (.bool false)→Q .ret ⟨e,h⟩)
  (hs:∀e J,(vs.all valOK&&incC (vs.map Val.a) 32)=true→find e 1= .ref 0 0→Q (.exit 2) ⟨e,.cells (Th.mk cs vs ps).cells::J⟩):
  awp Tryz.prog GLx (.loop (lG 55 1)) Q ⟨[(1,.ref 0 0),(5,.v (.int .i64 0))],[.cells (Th.mk cs vs ps).cells]⟩:=by
 refine awp_loop_I vs.length (λk s=>∃J,s=⟨[(1,.ref 0 0),(5,.v (.int .i64 k))],.cells (Th.mk cs vs ps).cells::J⟩∧(vs.take k).all valOK=true∧∀j <k,badC (vs.map Val.a) 32 j=false) ⟨[],by simp,rfl,by omega⟩ ?_;rintro k s hk ⟨J,rfl,hA,hI⟩;simp only[Zgl 55 1,awp_seq,awp_reg,awp_block,awp_cond,Zge 55 8,Th.cells,Th.cs,Th.vs,Th.ps,nums];simp;by_cases h1:k <vs.length
 ·obtain⟨x,hx⟩:∃x,vs[k]?=some x:=⟨_,List.getElem?_eq_getElem h1⟩;have hxm:=List.mem_of_getElem? hx;have hw:IntKind.i64.wrap ((k:Int)+1)=k+1:=wrap_i64 (by omega) (by omega);have q:=(p281 x (hv x hxm)).fsp;have hxa:(vs.map Val.a)[k]?=some x.a:=by rw[List.getElem?_map,hx];rfl
  have hb:badC (vs.map Val.a) 32 k=true↔(x.a <0∨32≤x.a∨(0 <k∧x.a≤(vs.map Val.a).getD (k-1) 0)):=by unfold badC;rw[decide_eq_true_iff];simp[List.getD,hx]
  have hf:¬(x.a <0∨32≤x.a∨(0 <k∧x.a≤(vs.map Val.a).getD (k-1) 0))→badC (vs.map Val.a) 32 k=false:=λh=>by
   cases h':badC (vs.map Val.a) 32 k with
   |true=>exact absurd (hb.1 h') h
   |false=>rfl
  have ret:badC (vs.map Val.a) 32 k=true→(vs.all valOK&&incC (vs.map Val.a) 32)=false:=λh=>by unfold incC;rw[any_bad (by simpa using h1) h];simp
  have ret2:valOK x=false→(vs.all valOK&&incC (vs.map Val.a) 32)=false:=λh=>by
   have:vs.all valOK=false:=by rw[List.all_eq_false];exact⟨x,hxm,by simp[h]⟩
   rw[this];rfl
  have go:badC (vs.map Val.a) 32 k=false→∀j <k+1,badC (vs.map Val.a) 32 j=false:=λh j hj=>by
   rcases Nat.lt_or_ge j k with h'|h'
   ·exact hI j h'
   ·have:j=k:=by omega
    subst this;exact h
  have goA:valOK x=true→(vs.take (k+1)).all valOK=true:=λh=>by
   rw[List.take_add_one,hx,List.all_append,hA];simp[h]
  generalize valOK x=g at*;obtain⟨xa,xn,xd⟩:=x;simp only[ratV]at q hb hf hxa;rw[if_pos (by omega),awp_skip];simp only[Zge 55 10,Zge 55 11];simp at q;simp[hx,Val.V,putL];refine⟨_,_,q _,?_⟩;simp only[awp_regD,Zge 55 12];cases g with
  |false=>
   simp[awp_ret,Zge 55 13];exact hr _ _ (ret2 rfl) rfl
  |true=>
   have goA:=goA rfl;simp only[List.all_eq_true]at goA;simp;by_cases b1:xa <0
   ·simp[b1,awp_ret,Zge 55 13];exact hr _ _ (ret (hb.2 (.inl b1))) rfl
   ·have b1':0≤xa:=by omega
    by_cases b2:31 <xa
    ·simp[b1,b1',b2,awp_ret,Zge 55 13];exact hr _ _ (ret (hb.2 (.inr (.inl (by omega))))) rfl
    ·cases k with
     |zero=>
      have hbf:badC (vs.map Val.a) 32 0=false:=hf (by omega);have hw1:IntKind.i64.wrap 1=1:=rfl;simp[hw1,b1,b1',b2,awp_skip,Zge 55 9,h1,hbf];exact goA
     |succ j=>
      have hw3:IntKind.i64.wrap (j:Int)=j:=wrap_i64 (by omega) (by omega);have hpos:(0:Int) <(j:Int)+1:=by omega
      obtain⟨y,hy⟩:∃y,vs[j]?=some y:=⟨_,List.getElem?_eq_getElem (by omega)⟩;simp only[Int.natCast_add,Int.cast_ofNat_Int]at hw;by_cases b3:xa≤y.a
      ·simp[b1,b1',b2,b3,hw3,hy,Val.V,awp_ret,Zge 55 13];exact hr _ _ (ret (hb.2 (.inr (.inr ⟨by omega,by simp[List.getD,hy,b3]⟩)))) rfl
      ·have hbf:badC (vs.map Val.a) 32 (j+1)=false:=hf (by simp[List.getD,hy];omega);simp[b1,b1',b2,b3,hw3,hy,Val.V,awp_skip,Zge 55 9,hw,h1];exact⟨goA,go hbf⟩
 ·have hk2:k=vs.length:=by omega
  subst hk2;rw[if_neg (by omega),awp_exit];rw[List.take_length]at hA;refine hs _ _ ?_ rfl;unfold incC;rw[hA,any_good (by simpa using hI)];rfl
theorem l197c (cs:List Int) (vs:List Val) (ps:List Th) (hn:ps.length≤2^40) (ih:∀p∈ps,PSp Tryz.prog GLx 55 [p.V] [.bool p.formed]) (J:List Row) (Q:AExit→St→Prop)
  (hr:∀e h,ps.all Th.formed=false→find e 2= .v (.bool false)→Q .ret ⟨e,h⟩)
  (hs:∀e h,ps.all Th.formed=true→Q (.exit 4) ⟨e,h⟩):
  awp Tryz.prog GLx (.loop (lG 55 2)) Q ⟨[(1,.ref 0 0),(8,.v (.int .i64 0))],.cells (Th.mk cs vs ps).cells::J⟩:=by
 refine awp_loop_inv ps.length (λk=>⟨[(1,.ref 0 0),(8,.v (.int .i64 k))],.cells (Th.mk cs vs ps).cells::J⟩) (λk=>∀x∈ps.take k,x.formed=true) (by simp) (by simp) ?_;intro k hk hI;simp only[Zgl 55 2,awp_seq,awp_reg,awp_block,awp_cond,Zge 55 15,Th.cells,Th.cs,Th.vs,Th.ps,nums];simp;by_cases h1:k <ps.length
 ·obtain⟨x,hx⟩:∃x,ps[k]?=some x:=⟨_,List.getElem?_eq_getElem h1⟩;have hxm:=List.mem_of_getElem? hx;have hw:IntKind.i64.wrap ((k:Int)+1)=k+1:=wrap_i64 (by omega) (by omega);have q:=(ih x hxm).fsp;have bad:x.formed=false→ps.all Th.formed=false:=λh=>by rw[List.all_eq_false];exact⟨x,hxm,by simp[h]⟩
  have good:x.formed=true→∀y∈ps.take (k+1),y.formed=true:=λh y hy=>by
   rw[List.take_add_one,hx]at hy;simp at hy;rcases hy with hy|rfl
   ·exact hI y hy
   ·exact h
  generalize x.formed=g at*;obtain⟨xc,xv,xp⟩:=x;simp[Th.V_eq,nums]at q;rw[if_pos (by omega),awp_skip];simp only[Zge 55 17];simp[hx,Th.V_eq,nums];refine⟨_,_,q _,?_⟩;simp only[Zge 55 18];cases g with
  |false=>
   simp[awp_ret,Zge 55 19];exact hr _ _ (bad rfl) rfl
  |true=>
   simp[awp_skip,Zge 55 16,hw,h1];exact good rfl
 ·have hk2:k=ps.length:=by omega
  subst hk2;rw[if_neg (by omega),awp_exit];refine hs _ _ ?_;rw[List.all_eq_true];simpa using hI
theorem p197:∀t:Th,t.ok→PSp Tryz.prog GLx 55 [t.V] [.bool t.formed]:=by
 refine Th.ind λcs vs ps ih hok=>?_;obtain⟨ok1,ok2,ok3,ok4,ok5⟩:=hok;refine psp_of_awp (Zkk 55) rfl ?_;obtain⟨R,hR⟩:∃R,(Th.mk cs vs ps).formed=R:=⟨_,rfl⟩;rw[hR];rw[Th.formed,formeds_all]at hR;have q1:=l197a cs vs ps (by omega);have q2:=l197b cs vs ps (by omega) ok4;have q3:=l197c cs vs ps (by omega) λp hp=>ih p hp (ok5 p hp);simp only[Th.cells,Th.cs,Th.vs,Th.ps]at q1 q2 q3;simp only[Zga 55,awp_seq,awp_reg,awp_block,Zge 55 0,Zge 55 1,entry];simp[Th.V_eq];refine q1 _ ?_ ?_
 ·intro e h a1 a2;rw[a1]at hR;simp at hR;simp[a2,Zgr 55,hR]
 ·intro e h a1 a2 a3;subst a3;rw[a1]at hR;simp[Zge 55 7,a2];refine q2 _ ?_ ?_
  ·intro e h a1 a2;have:R=false:=by
    rw[←hR,Bool.true_and,←Bool.and_assoc,a1];rfl
   simp[a2,Zgr 55,this]
  ·intro e J a1 a2;have hR2:ps.all Th.formed=R:=by
    rw[←hR,Bool.true_and,←Bool.and_assoc,a1,Bool.true_and]
   simp[Zge 55 14,a2];refine q3 _ _ ?_ ?_
   ·intro e h a1 a2;rw[a1]at hR2;simp[a2,Zgr 55,hR2]
   ·intro e h a1;rw[a1]at hR2;simp[awp_ret,Zge 55 20,Zgr 55,hR2]
theorem p103 (t:Th) (h:t.ok) (hs:t.size≤2^40):PSp Tryz.prog GLx 30 [t.V] [.int .i64 (thE t)]:=by
 refine psp_of_awp (Zkk 30) rfl ?_;obtain⟨R,hR⟩:∃R,thE t=R:=⟨_,rfl⟩;rw[hR];unfold thE at hR;rw[limT_of]at hR;have h1:=(p195 t hs).fsp;have h2:=(p196 t hs).fsp;have h3:=(p197 t h).fsp;generalize t.size=sz at*;generalize t.depth=dp at*;generalize t.formed=g at*;obtain⟨cs,vs,ps⟩:=t;simp only[Zga 30,awp_seq,awp_reg,awp_cond,Zge 30 0,Zge 30 1,entry];simp[Th.V_eq,nums]at h1 h2 h3 ⊢;refine⟨_,_,h1 _,?_⟩;by_cases b1:96 <sz
 ·have b1':96 <(sz:Int):=by omega
  rw[if_neg (by simp;omega)]at hR;simp[b1',awp_ret,Zge 30 2,Zgr 30,hR]
 ·have b1':¬96 <(sz:Int):=by omega
  simp[b1'];refine⟨_,_,h2 _,?_⟩;by_cases b2:8 <dp
  ·have b2':8 <(dp:Int):=by omega
   rw[if_neg (by simp;omega)]at hR;simp[b2',awp_ret,Zge 30 2,Zgr 30,hR]
  ·have b2':¬8 <(dp:Int):=by omega
   rw[if_pos (by simp;omega)]at hR;simp[b2',awp_skip];simp only[Zge 30 3];simp;refine⟨_,_,h3 _,?_⟩;cases g<;>simp at hR<;>simp[Zge 30 4,awp_ret,Zge 30 5,Zge 30 6,Zgr 30,hR]
def c185B:AC:=(.seq (.reg (oG 13 10) [0,5,9,11,24,25,26,31,32,33]) (.block 2 (.loop (lG 13 1))))
theorem c185l0_eq:(lG 13 0)=(.seq (.reg (oG 13 8) [0,5,9,24,25,26,27]) (.seq (.cond (.t 27 false) .skip (.exit 0)) (.seq (.block 1 (.seq (.reg (oG 13 9) [0,5,9,11,24,25,26]) c185B)) (.reg (oG 13 22) [0,5,9,24,25,26])))):=(Zgl 13 0 :)
def mkA (a b:F):F:= .mk 4 0 [] (partsF a++partsF b)
def altC (acc:List (List F)) (c:Clm):List F:=if c.refs=[] then c.body.tops else c.refs.flatMap λr=>((acc[r.toNat]?).getD []).flatMap λa=>c.body.tops.map λb=>mkA a b
def altL (l:List Clm):List (List F):=l.foldl (λacc c=>acc++[altC acc c]) []
def altAt (l:List Clm) (i:Int):List F:=((altL l)[i.toNat]?).getD []
def FsOK (nc:Int) (al:List F):Prop:=al.length≤64∧∀f∈al,f.ok∧formE f=0∧f.nodes.all (okC nc)=true
end Go.Va
