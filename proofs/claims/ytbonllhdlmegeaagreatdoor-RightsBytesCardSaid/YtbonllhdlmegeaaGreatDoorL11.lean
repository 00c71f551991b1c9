/- Laws, part 11. No condition. -/
import Derived.Test.YtbonllhdlmegeaaGreatDoorL09
set_option linter.all false
set_option maxRecDepth 100000
set_option maxHeartbeats 4000000
noncomputable section
namespace Go.Va
open Go.Proofs
def apartR (a b:Ivl):Bool:=
 if a.hi||b.li then false else if a.hn=b.ln∧a.hd=b.ld then a.ho&&b.lo else lessR a.hn a.hd b.ln b.ld
theorem goodR_hi {x:Ivl} (h:goodR x=true) (hi:x.hi=false):smallR x.hn x.hd=true:=by
 unfold goodR at h;by_cases c1:((x.li&&(!decide (x.ln=0∧x.ld=0)||x.lo))||(x.hi&&(!decide (x.hn=0∧x.hd=0)||x.ho)))=true
 ·rw[if_pos c1]at h;cases h
 ·rw[if_neg c1]at h;by_cases c2:((!x.li&& !smallR x.ln x.ld)||(!x.hi&& !smallR x.hn x.hd))=true
  ·rw[if_pos c2]at h;cases h
  ·rw[hi]at c2;simp at c2;exact c2.2
theorem goodR_lo {x:Ivl} (h:goodR x=true) (hi:x.li=false):smallR x.ln x.ld=true:=by
 unfold goodR at h;by_cases c1:((x.li&&(!decide (x.ln=0∧x.ld=0)||x.lo))||(x.hi&&(!decide (x.hn=0∧x.hd=0)||x.ho)))=true
 ·rw[if_pos c1]at h;cases h
 ·rw[if_neg c1]at h;by_cases c2:((!x.li&& !smallR x.ln x.ld)||(!x.hi&& !smallR x.hn x.hd))=true
  ·rw[if_pos c2]at h;cases h
  ·rw[hi]at c2;simp at c2;exact c2.1
theorem smallR_ok {n d:Int} (h:smallR n d=true):okR n d=true:=by unfold smallR at h;simp at h;exact h.1
theorem p353 (x y:Ivl) (gx:goodR x=true) (gy:goodR y=true):PSp Tryz.prog GLx 362 [x.V,y.V] [.bool (apartR x y)]:=by
 refine psp_of_awp (Zkk 362) rfl ?_;have q1:=goodR_hi gx;have q2:=goodR_lo gy;obtain⟨R,hR⟩:∃R,apartR x y=R:=⟨_,rfl⟩;rw[hR];unfold apartR at hR;obtain⟨ln,ld,hn,hd,lo,ho,li,hi⟩:=x;obtain⟨ln',ld',hn',hd',lo',ho',li',hi'⟩:=y;simp only[Ivl.V]at*;rw[Zga 362];rw[awp_seq,awp_reg];simp[Zge 362 0,entry];rw[awp_seq,awp_seq,awp_reg];cases hi with
 |true=>simp at hR;simp[Zge 362 1,awp_cond,awp_seq,awp_reg,awp_ret,Zge 362 2,Zgr 362,hR]
 |false=>
  cases li' with
  |true=>simp at hR;simp[Zge 362 1,awp_cond,awp_seq,awp_reg,awp_ret,Zge 362 2,Zgr 362,hR]
  |false=>
   have p3:=(p352 hn hd ln' ld' (smallR_ok (q1 rfl)) (smallR_ok (q2 rfl))).fsp;simp[ratV]at p3;simp[Zge 362 1,awp_cond,awp_skip];rw[awp_seq,awp_seq,awp_reg];simp[Zge 362 3,eqL2];by_cases h3:hn=ln'∧hd=ld'
   ·simp[h3]at hR;cases ho<;>simp at hR<;>simp[h3,awp_cond,awp_seq,awp_reg,awp_ret,Zge 362 4,Zgr 362,hR]
   ·simp[h3]at hR;simp[h3,awp_cond,awp_skip,awp_seq,awp_reg,Zge 362 5];refine⟨_,_,p3 _,?_⟩;simp[awp_ret,Zgr 362,hR]
theorem dvd_of_co {b a d:Int} (hc:Int.gcd b a=1) (h3:b ∣ a*d):b ∣ d:=by
 have h3n:b.natAbs ∣ a.natAbs*d.natAbs:=by rw[←Int.natAbs_mul];exact Int.natAbs_dvd_natAbs.2 h3
 have hc':Nat.Coprime b.natAbs a.natAbs:=hc;exact Int.natAbs_dvd_natAbs.1 (hc'.dvd_of_dvd_mul_left h3n)
theorem ratio_eq {a b c d:Int} (h1:okR a b=true) (h2:okR c d=true) (h:a*d=c*b):a=c∧b=d:=by
 unfold okR at h1 h2;simp at h1 h2;obtain⟨b1,_,_,_,g1⟩:=h1;obtain⟨d1,_,_,_,g2⟩:=h2;have e1:b ∣ d:=by
  have h3:b ∣ a*d:=by rw[h];exact Int.dvd_mul_left _ _
  have:Int.gcd b a=1:=by rw[Int.gcd_comm];exact g1
  exact dvd_of_co this h3
 have e2:d ∣ b:=by
  have h3:d ∣ c*b:=by rw[←h];exact Int.dvd_mul_left _ _
  have:Int.gcd d c=1:=by rw[Int.gcd_comm];exact g2
  exact dvd_of_co this h3
 have e3:b=d:=by
  have:=Int.le_of_dvd (by omega) e1;have:=Int.le_of_dvd (by omega) e2;omega
 subst e3;exact⟨Int.eq_of_mul_eq_mul_right (by omega) h,rfl⟩
theorem good_same (x:Ivl):goodR x=goodE x:=by
 obtain⟨ln,ld,hn,hd,lo,ho,li,hi⟩:=x;unfold goodE goodR limE;cases li<;>cases hi<;>simp only[loE,hiE,lessE]
 ·cases hs1:smallR ln ld<;>cases hs2:smallR hn hd<;>simp
  have r:=ratio_eq (smallR_ok hs1) (smallR_ok hs2);by_cases h3:ln=hn∧ld=hd
  ·obtain⟨rfl,rfl⟩:=h3;simp
  ·rw[if_neg h3];rw[if_neg (λh=>h3 (r h))];rfl
 ·generalize hA:decide (hn=0∧hd=0)=A;cases A<;>cases ho<;>cases smallR ln ld<;>simp
 ·simp
 ·simp
theorem apart_same (x y:Ivl) (gx:goodR x=true) (gy:goodR y=true):apartR x y=lessE (hiE x) (loE y):=by
 have q1:=goodR_hi gx;have q2:=goodR_lo gy;obtain⟨ln,ld,hn,hd,lo,ho,li,hi⟩:=x;obtain⟨ln',ld',hn',hd',lo',ho',li',hi'⟩:=y;unfold apartR;cases hi<;>cases li'<;>simp only[loE,hiE,lessE]
 ·simp at q1 q2;have r:=ratio_eq (smallR_ok q1) (smallR_ok q2);by_cases h3:hn=ln'∧hd=ld'
  ·obtain⟨rfl,rfl⟩:=h3;simp
  ·simp;rw[if_neg h3,if_neg (λh=>h3 (r h))];rfl
 ·simp
 ·simp
 ·simp
theorem p338 (l:List Ivl) (hl:∀x∈l,x.ok) (hn:l.length≤2^40):PSp Tryz.prog GLx 280 [.list (l.map Ivl.V)] [.int .i64 (spanE l)]:=by
 refine psp_of_awp (Zkk 280) rfl ?_;simp only[Zga 280,awp_seq,awp_reg,awp_block,Zge 280 0,Zge 280 1,entry];simp;refine awp_loop_inv l.length (λk=>⟨[(0,.v (.list (l.map Ivl.V))),(3,.v (.int .i64 k))],[]⟩) (λk=>∀j <k,badAt l j=false) (by simp) (by omega) ?_;intro k hk hg;simp only[Zgl 280 0,awp_seq,awp_reg,awp_block,awp_cond,Zge 280 2];simp;by_cases h1:k <l.length
 ·obtain⟨x,hx⟩:∃x,l[k]?=some x:=⟨_,List.getElem?_eq_getElem h1⟩;have hxm:=List.mem_of_getElem? hx;have hw:IntKind.i64.wrap ((k:Int)+1)=k+1:=wrap_i64 (by omega) (by omega);have p1:=(p332 x (hl x hxm)).fsp;rw[if_pos (by omega),awp_skip];simp only[Zge 280 4];simp[Ivl.V]at p1;simp[hx,Ivl.V];refine⟨_,_,p1 _,?_⟩;simp only[awp_regD,Zge 280 5];simp;cases hgx:goodR x with
  |false=>
   have hb:badAt l k=true:=by unfold badAt;rw[hx];simp[←good_same,hgx]
   simp[awp_ret,Zge 280 6,Zgr 280];unfold spanE;rw[any_bad h1 hb];rfl
  |true=>
   cases k with
   |zero=>
    have hb:badAt l 0=false:=by unfold badAt;rw[hx];simp[←good_same,hgx]
    simp at hw;simp[awp_skip,Zge 280 3,hw,h1];exact hb
   |succ j=>
    obtain⟨y,hy⟩:∃y,l[j]?=some y:=⟨_,List.getElem?_eq_getElem (by omega)⟩;have hgy:goodR y=true:=by
     have:=hg j (by omega);unfold badAt at this;rw[hy]at this;simp at this;rw[good_same];exact this.1
    have p2:=p353 y x hgy hgx;rw[apart_same y x hgy hgx]at p2;have hw2:IntKind.i64.wrap (j:Int)=j:=wrap_i64 (by omega) (by omega);simp[Ivl.V]at p2;have h9:(0:Int) <(j:Int)+1:=by omega
    have h10:(0:Int)≤(j:Int)+1:=by omega
    simp[hw2,hy,Ivl.V,hx,h10];refine⟨_,_,⟨rfl,rfl⟩,_,p2,?_⟩;simp;cases hle:lessE (hiE y) (loE x)with
    |false=>
     have hb:badAt l (j+1)=true:=by unfold badAt;rw[hx];simp[hy,hle]
     simp[awp_ret,Zge 280 6,Zgr 280];unfold spanE;rw[any_bad h1 hb];rfl
    |true=>
     have hb:badAt l (j+1)=false:=by unfold badAt;rw[hx];simp[←good_same,hgx,hy,hle]
     simp at hw;simp[awp_skip,Zge 280 3,hw,h1];intro i hi;rcases Nat.lt_or_ge i (j+1)with h|h
     ·exact hg i h
     ·have:i=j+1:=by omega
      subst this;exact hb
 ·have hk2:k=l.length:=by omega
  subst hk2;rw[if_neg (by omega),awp_exit];simp only[Zge 280 7];unfold spanE;rw[any_good hg];by_cases h:32 <(l.length:Int)
  ·have h':32 <l.length:=by omega
   simp[h,h',awp_ret,Zge 280 8,Zgr 280]
  ·have h':¬32 <l.length:=by omega
   simp[h,h',awp_skip,awp_ret,Zge 280 9,Zgr 280]
inductive F where
 |mk (op n:Int) (ins:List Ivl) (kids:List F)
def F.op:F→Int| .mk o _ _ _=>o
def F.n:F→Int| .mk _ n _ _=>n
def F.ins:F→List Ivl| .mk _ _ i _=>i
def F.kids:F→List F| .mk _ _ _ k=>k
theorem F.ind {p:F→Prop} (h:∀op n ins kids,(∀k∈kids,p k)→p (.mk op n ins kids)) (f:F):p f:=
 F.rec (motive_1:=p) (motive_2:=λl=>∀k∈l,p k) (λop n ins kids ih=>h op n ins kids ih) (λk hk=>by cases hk)
  (λx xs hx hxs k hk=>by cases hk with|head=>exact hx|tail _ hk=>exact hxs k hk) f
mutual
def F.V:F→V| .mk op n ins kids=> .agg [.int .i64 op,.int .i64 n,.list (ins.map Ivl.V),.list (F.Vs kids)]
def F.Vs:List F→List V|[]=>[]|k::ks=>k.V::F.Vs ks
end
theorem F.Vs_map:∀l,F.Vs l=l.map F.V
 |[]=>rfl
 |k::ks=>by simp[F.Vs,F.Vs_map ks]
mutual
def F.nodes:F→List F| .mk op n ins kids=> .mk op n ins kids::F.nodess kids
def F.nodess:List F→List F|[]=>[]|k::ks=>k.nodes++F.nodess ks
end
theorem F.nodess_map:∀l,F.nodess l=l.flatMap F.nodes
 |[]=>rfl
 |k::ks=>by simp[F.nodess,F.nodess_map ks]
def F.size (f:F):Nat:=f.nodes.length
mutual
def F.depth:F→Nat| .mk _ _ _ kids=>F.depths kids+1
def F.depths:List F→Nat|[]=>0|k::ks=>max k.depth (F.depths ks)
end
theorem F.size_eq (op n:Int) (ins:List Ivl) (kids:List F):(F.mk op n ins kids).size=1+(kids.map F.size).sum:=by
 unfold F.size;simp only[F.nodes,List.length_cons,F.nodess_map,List.length_flatMap];have e:(λf:F=>f.size)=λf=>f.nodes.length:=rfl;rw[Nat.add_comm]
theorem F.kid_size {f:F} {kids:List F} (h:f∈kids):f.size≤(kids.map F.size).sum:=by
 induction kids with
 |nil=>cases h
 |cons k ks ih=>
  simp only[List.map_cons,List.sum_cons];cases h with
  |head=>omega
  |tail _ h=>have:=ih h;omega
theorem F.size_pos (f:F):1≤f.size:=by cases f;rw[F.size_eq];omega
theorem F.kids_len (kids:List F):kids.length≤(kids.map F.size).sum:=by
 induction kids with
 |nil=>simp
 |cons k ks ih=>have:=k.size_pos;simp only[List.map_cons,List.sum_cons,List.length_cons];omega
theorem F.nodes_eq (op n:Int) (ins:List Ivl) (kids:List F):(F.mk op n ins kids).nodes= .mk op n ins kids::kids.flatMap F.nodes:=by
 simp[F.nodes,F.nodess_map]
theorem F.V_eq (op n:Int) (ins:List Ivl) (kids:List F):(F.mk op n ins kids).V= .agg [.int .i64 op,.int .i64 n,.list (ins.map Ivl.V),.list (kids.map F.V)]:=by
 simp[F.V,F.Vs_map]
theorem F.depth_le:∀f:F,f.depth≤f.size:=by
 refine F.ind λop n ins kids ih=>?_;rw[F.size_eq,F.depth];have:F.depths kids≤(kids.map F.size).sum:=by
  induction kids with
  |nil=>simp[F.depths]
  |cons k ks ihk=>
   have h1:=ih k (by simp);have h2:=ihk λx hx=>ih x (by simp[hx]);simp only[F.depths,List.map_cons,List.sum_cons];omega
 omega
def F.ok1 (f:F):Prop:=i64 f.op∧i64 f.n∧(∀x∈f.ins,x.ok)∧f.ins.length≤2^40
def F.ok (f:F):Prop:=(∀g∈f.nodes,g.ok1)∧f.size≤2^40
theorem F.ok_kid {op n:Int} {ins:List Ivl} {kids:List F} (h:(F.mk op n ins kids).ok) {k:F} (hk:k∈kids):k.ok:=by
 refine⟨λg hg=>h.1 g ?_,?_⟩
 ·rw[F.nodes_eq];exact List.mem_cons_of_mem _ (List.mem_flatMap.2 ⟨k,hk,hg⟩)
 ·have:=h.2;rw[F.size_eq]at this;have:=F.kid_size hk;omega
def formedF (f:F):Bool:=
 if (f.op≠2∧0 <f.ins.length)∨(f.op≠2∧f.op≠1∧f.n≠0) then false
 else if f.op=0 then f.kids.length==0
 else if f.op=1 then decide (f.kids.length=0∧0≤f.n∧f.n <64)
 else if f.op=2 then decide (f.kids.length=0∧0≤f.n∧f.n <32∧spanE f.ins=0)
 else if f.op=3∨f.op=6 then f.kids.length==1
 else decide (f.op=4∨f.op=5)
def formE (f:F):Int:=if f.size>96∨f.depth>8 then 4 else if f.nodes.all formedF then 0 else 1
def F.cells (f:F):List D:=[.v (.int .i64 f.op),.v (.int .i64 f.n),.v (.list (f.ins.map Ivl.V)),.v (.list (f.kids.map F.V))]
theorem F.ok1_self {f:F} (h:f.ok):f.ok1:=h.1 f (by cases f;rw[F.nodes_eq];exact List.mem_cons_self)
theorem sum_take {l:List F} {k:Nat} {x:F} (hx:l[k]?=some x) (f:F→Nat):((l.map f).take (k+1)).sum=((l.map f).take k).sum+f x:=by
 rw[List.take_add_one,List.getElem?_map,hx];simp
theorem sum_take_le (l:List F) (k:Nat) (f:F→Nat):((l.map f).take k).sum≤(l.map f).sum:=by
 have:=congrArg (λl=>l.sum) (List.take_append_drop k (l.map f));simp only[List.sum_append]at this;omega
theorem take_map_len {l:List F} {f:F→Nat}:(l.map f).take l.length=l.map f:=List.take_of_length_le (by simp)
theorem p285:∀f:F,f.ok→PSp Tryz.prog GLx 167 [f.V] [.int .i64 f.size]:=by
 refine F.ind λop n ins kids ih hok=>?_;refine psp_of_awp (Zkk 167) rfl ?_;have hsz:=hok.2;rw[F.size_eq]at hsz ⊢;have hkl:=F.kids_len kids;simp only[Zga 167,awp_seq,awp_reg,awp_block,Zge 167 0,Zge 167 1,Zge 167 2,entry];simp[F.V_eq];refine awp_loop_nat0 kids.length (λk=>⟨[(1,.ref 0 0),(3,.v (.int .i64 (1+((kids.map F.size).take k).sum:Nat))),(4,.v (.int .i64 k))],[.cells (F.mk op n ins kids).cells]⟩) (by simp[F.cells,F.op,F.n,F.ins,F.kids]) ?_;intro k hk;simp only[Zgl 167 0,awp_seq,awp_reg,awp_block,awp_cond,Zge 167 3,F.cells,F.op,F.n,F.ins,F.kids];simp;by_cases h1:k <kids.length
 ·obtain⟨x,hx⟩:∃x,kids[k]?=some x:=⟨_,List.getElem?_eq_getElem h1⟩;have hxm:=List.mem_of_getElem? hx;have hw:IntKind.i64.wrap ((k:Int)+1)=k+1:=wrap_i64 (by omega) (by omega);have p1:=(ih x hxm (F.ok_kid hok hxm)).fsp;have ht:=sum_take hx F.size;have hle:=sum_take_le kids (k+1) F.size;have hw2:IntKind.i64.wrap (1+(((kids.map F.size).take k).sum:Int)+x.size)=1+(((kids.map F.size).take (k+1)).sum:Int):=by
   rw[wrap_i64 (by omega) (by omega)];omega
  rw[if_pos (by omega),awp_skip];simp only[Zge 167 4,Zge 167 5];obtain⟨xo,xn,xi,xk⟩:=x;simp[F.V_eq]at p1;simp[hx,F.V_eq];refine⟨_,_,p1 _,?_⟩;simp[hw,hw2,h1]
 ·have hk2:k=kids.length:=by omega
  subst hk2;rw[if_neg (by omega),awp_exit];simp[awp_ret,Zge 167 6,Zgr 167,take_map_len]
theorem depths_take {l:List F} {k:Nat} {x:F} (hx:l[k]?=some x):F.depths (l.take (k+1))=max (F.depths (l.take k)) x.depth:=by
 induction l generalizing k with
 |nil=>simp at hx
 |cons y l ih=>
  cases k with
  |zero=>simp at hx;subst hx;simp[F.depths]
  |succ k=>simp at hx;simp only[List.take_succ_cons,F.depths,ih hx];omega
theorem depths_le (l:List F):F.depths l≤(l.map F.size).sum:=by
 induction l with
 |nil=>simp[F.depths]
 |cons k ks ih=>have:=F.depth_le k;simp only[F.depths,List.map_cons,List.sum_cons];omega
theorem p286:∀f:F,f.ok→PSp Tryz.prog GLx 168 [f.V] [.int .i64 f.depth]:=by
 refine F.ind λop n ins kids ih hok=>?_;refine psp_of_awp (Zkk 168) rfl ?_;have hsz:=hok.2;rw[F.size_eq]at hsz;have hkl:=F.kids_len kids;have hdl:=depths_le kids;simp only[Zga 168,awp_seq,awp_reg,awp_block,Zge 168 0,Zge 168 1,Zge 168 2,entry];simp[F.V_eq];refine awp_loop_nat0 kids.length (λk=>⟨[(1,.ref 0 0),(3,.v (.int .i64 (F.depths (kids.take k)))),(4,.v (.int .i64 k))],[.cells (F.mk op n ins kids).cells]⟩) (by simp[F.cells,F.op,F.n,F.ins,F.kids,F.depths]) ?_;intro k hk;simp only[Zgl 168 0,awp_seq,awp_reg,awp_block,awp_cond,Zge 168 3,F.cells,F.op,F.n,F.ins,F.kids];simp;by_cases h1:k <kids.length
 ·obtain⟨x,hx⟩:∃x,kids[k]?=some x:=⟨_,List.getElem?_eq_getElem h1⟩;have hxm:=List.mem_of_getElem? hx;have hw:IntKind.i64.wrap ((k:Int)+1)=k+1:=wrap_i64 (by omega) (by omega);have p1:=(ih x hxm (F.ok_kid hok hxm)).fsp;have ht:=depths_take hx;rw[if_pos (by omega),awp_skip];simp only[Zge 168 4,Zge 168 5];obtain⟨xo,xn,xi,xk⟩:=x;simp[F.V_eq]at p1;simp[hx,F.V_eq];refine⟨_,_,p1 _,?_⟩;simp[hw,h1,ht];split<;>omega
 ·have hk2:k=kids.length:=by omega
  subst hk2;rw[if_neg (by omega),awp_exit];have hw2:IntKind.i64.wrap ((F.depths kids:Int)+1)=F.depths kids+1:=wrap_i64 (by omega) (by omega);simp[awp_ret,Zge 168 6,Zgr 168,hw2,F.depth]
theorem natBeq0 (n:Nat):((n:Int)==0)=(n==0):=by rw[Bool.eq_iff_iff];simp
theorem natBeq1 (n:Nat):((n:Int)==1)=(n==1):=by rw[Bool.eq_iff_iff];simp;omega
def odd1 (f:F):Bool:=decide ((f.op≠2∧0 <f.ins.length)∨(f.op≠2∧f.op≠1∧f.n≠0))
set_option maxHeartbeats 2000000 in
theorem l322a (f:F) (Q:AExit→St→Prop) (hQ:Q .normal ⟨[(1,.ref 0 0),(26,.v (.bool (odd1 f)))],[.cells f.cells]⟩):
  awp Tryz.prog GLx (.reg (oG 221 1) [1,26]) Q ⟨[(1,.ref 0 0)],[.cells f.cells]⟩:=by
 obtain⟨B,hB⟩:∃B,odd1 f=B:=⟨_,rfl⟩;rw[hB]at hQ;obtain⟨op,n,ins,kids⟩:=f;simp only[F.cells,odd1,F.op,F.n,F.ins,F.kids]at*;rw[awp_reg];simp only[Zge 221 1];by_cases h2:op=2
 ·subst h2;simp at hB;subst hB;simpa using hQ
 ·by_cases hl:0 <ins.length
  ·have hl':0 <(ins.length:Int):=by omega
   simp[h2,hl]at hB;subst hB;simp[h2,hl];exact hQ
  ·have hl':¬0 <(ins.length:Int):=by omega
   have hl2:ins=[]:=by cases ins<;>simp_all
   subst hl2;by_cases h1:op=1
   ·subst h1;simp at hB;subst hB;simpa using hQ
   ·by_cases hn:n=0
    ·subst hn;simp at hB;subst hB;simp[h2,h1];exact hQ
    ·have hn2:(n != 0)=true:=by simpa using hn
     simp[h2,h1,hn]at hB;subst hB;simp[h2,h1,hn2];exact hQ
theorem formedF_odd {f:F} (h:odd1 f=true):formedF f=false:=by
 unfold formedF;unfold odd1 at h;rw[if_pos (of_decide_eq_true h)]
theorem formedF_even {f:F} (h:odd1 f=false):formedF f=if f.op=0 then f.kids.length==0
 else if f.op=1 then decide (f.kids.length=0∧0≤f.n∧f.n <64)
 else if f.op=2 then decide (f.kids.length=0∧0≤f.n∧f.n <32∧spanE f.ins=0)
 else if f.op=3∨f.op=6 then f.kids.length==1
 else decide (f.op=4∨f.op=5):=by
 unfold formedF;unfold odd1 at h;rw[if_neg (of_decide_eq_false h)]
set_option maxHeartbeats 4000000 in
theorem p322 (f:F) (hf:f.ok1):PSp Tryz.prog GLx 221 [f.V] [.bool (formedF f)]:=by
 refine psp_of_awp (Zkk 221) rfl ?_;obtain⟨R,hR⟩:∃R,formedF f=R:=⟨_,rfl⟩;rw[hR];have hp:=(p338 f.ins hf.2.2.1 hf.2.2.2).fsp;rw[Zga 221];rw[awp_seq,awp_reg];obtain⟨op,n,ins,kids⟩:=f;simp only[F.V_eq,F.ins]at*;simp[Zge 221 0,entry];rw[awp_seq,awp_seq];have ha:=l322a ⟨op,n,ins,kids⟩;simp only[F.cells,F.op,F.n,F.ins,F.kids]at ha;refine ha _ ?_;simp[awp_cond];cases ho:odd1 ⟨op,n,ins,kids⟩with
 |true=>
  rw[formedF_odd ho]at hR;simp[awp_seq,awp_reg,awp_ret,Zge 221 2,Zgr 221,hR]
 |false=>
  rw[formedF_even ho]at hR;simp only[F.op,F.n,F.ins,F.kids]at hR;simp only[awp_skip,if_neg Bool.false_ne_true];simp only[awp_seq,awp_reg,awp_block,awp_cond,Zge 221 3,Zge 221 4];simp;by_cases h0:op=0
  ·subst h0;simp at hR;simp[awp_ret,Zge 221 5,Zgr 221,natBeq0,hR]
  ·simp only[h0,if_false]at hR;simp[h0,Zge 221 6];by_cases h1:op=1
   ·subst h1;simp at hR;simp[awp_ret,Zge 221 7];by_cases hk:kids.length=0
    ·have hk2:kids=[]:=List.length_eq_zero_iff.1 hk;subst hk2;by_cases b1:0≤n<;>by_cases b2:n <64<;>simp[b1,b2]at hR<;>simp[b1,b2,Zgr 221,hR]
    ·have hk2:¬kids=[]:=λh=>hk (by rw[h];rfl);simp[hk2]at hR;simp[hk2,Zgr 221,hR]
   ·simp only[h1,if_false]at hR;simp[h1,Zge 221 8];by_cases h2:op=2
    ·subst h2;simp at hR;simp[awp_ret,Zge 221 9];by_cases hk:kids.length=0
     ·have hk2:kids=[]:=List.length_eq_zero_iff.1 hk;subst hk2;by_cases b1:0≤n<;>by_cases b2:n <32<;>simp[b1,b2]at hR<;>simp[b1,b2,Zgr 221,hR]
      refine⟨_,_,hp _,?_⟩;simp;rw[←hR,Bool.eq_iff_iff];simp
     ·have hk2:¬kids=[]:=λh=>hk (by rw[h];rfl);simp[hk2]at hR;simp[hk2,Zgr 221,hR]
    ·simp only[h2,if_false]at hR;simp[h2,Zge 221 10];by_cases h3:op=3
     ·subst h3;simp at hR;simp[awp_skip,awp_ret,Zge 221 12,Zgr 221,natBeq1,hR]
     ·simp[h3,awp_skip,Zge 221 11];by_cases h6:op=6
      ·subst h6;simp at hR;simp[awp_ret,Zge 221 12,Zgr 221,natBeq1,hR]
      ·simp[h3,h6]at hR;simp[h6,awp_ret,Zge 221 13];by_cases h4:op=4<;>by_cases h5:op=5<;>simp[h4,h5]at hR<;>simp[h4,h5,Zgr 221,hR]
def wholeF (f:F):Bool:=f.nodes.all formedF
theorem wholeF_eq (op n:Int) (ins:List Ivl) (kids:List F):wholeF (.mk op n ins kids)=(formedF (.mk op n ins kids)&&kids.all wholeF):=by
 unfold wholeF;rw[F.nodes_eq,List.all_cons,List.all_flatMap]
theorem p287:∀f:F,f.ok→PSp Tryz.prog GLx 169 [f.V] [.bool (wholeF f)]:=by
 refine F.ind λop n ins kids ih hok=>?_;refine psp_of_awp (Zkk 169) rfl ?_;obtain⟨R,hR⟩:∃R,wholeF (.mk op n ins kids)=R:=⟨_,rfl⟩;rw[hR];rw[wholeF_eq]at hR;have hsz:=hok.2;rw[F.size_eq]at hsz;have hkl:=F.kids_len kids;have hp:=(p322 _ (F.ok1_self hok)).fsp;generalize formedF (.mk op n ins kids)=fm at*;simp only[Zga 169,awp_seq,awp_reg,awp_block,awp_cond,Zge 169 0,Zge 169 1,entry];simp[F.V_eq]at hp ⊢;refine⟨_,_,hp _,?_⟩;cases fm with
 |false=>simp at hR;simp[awp_ret,Zge 169 2,Zgr 169,hR]
 |true=>
  simp only[Bool.true_and]at hR;simp[awp_skip,Zge 169 3];refine awp_loop_inv kids.length (λk=>⟨[(1,.ref 0 0),(3,.v (.int .i64 k))],[.cells (F.mk op n ins kids).cells]⟩) (λk=>∀x∈kids.take k,wholeF x=true) (by simp[F.cells,F.op,F.n,F.ins,F.kids]) (by simp) ?_;intro k hk hI;simp only[Zgl 169 0,awp_seq,awp_reg,awp_block,awp_cond,Zge 169 4,F.cells,F.op,F.n,F.ins,F.kids];simp;by_cases h1:k <kids.length
  ·obtain⟨x,hx⟩:∃x,kids[k]?=some x:=⟨_,List.getElem?_eq_getElem h1⟩;have hxm:=List.mem_of_getElem? hx;have hw:IntKind.i64.wrap ((k:Int)+1)=k+1:=wrap_i64 (by omega) (by omega);have p1:=(ih x hxm (F.ok_kid hok hxm)).fsp;rw[if_pos (by omega),awp_skip];simp only[Zge 169 6];cases hwx:wholeF x with
   |false=>
    have:kids.all wholeF=false:=by rw[List.all_eq_false];exact⟨x,hxm,by simp[hwx]⟩
    rw[this]at hR;obtain⟨xo,xn,xi,xk⟩:=x;simp[F.V_eq,hwx]at p1;simp[hx,F.V_eq];refine⟨_,_,p1 _,?_⟩;simp[awp_ret,Zge 169 7,Zgr 169,hR]
   |true=>
    have ht:∀y∈kids.take (k+1),wholeF y=true:=by
     rw[List.take_add_one,hx];intro y hy;simp at hy;rcases hy with hy|rfl
     ·exact hI y hy
     ·exact hwx
    obtain⟨xo,xn,xi,xk⟩:=x;simp[F.V_eq,hwx]at p1;simp[hx,F.V_eq];refine⟨_,_,p1 _,?_⟩;simp[awp_skip,Zge 169 5,hw,h1];exact ht
  ·have hk2:k=kids.length:=by omega
   subst hk2;rw[if_neg (by omega),awp_exit];have:kids.all wholeF=true:=by rw[List.all_eq_true];simpa using hI
   rw[this]at hR;simp[awp_ret,Zge 169 8,Zgr 169,hR]
theorem p214 (f:F) (hok:f.ok):PSp Tryz.prog GLx 118 [f.V] [.int .i64 (formE f)]:=by
 refine psp_of_awp (Zkk 118) rfl ?_;obtain⟨R,hR⟩:∃R,formE f=R:=⟨_,rfl⟩;rw[hR];unfold formE at hR;have e:f.nodes.all formedF=wholeF f:=rfl;rw[e]at hR;have h1:=(p285 f hok).fsp;have h2:=(p286 f hok).fsp;have h3:=(p287 f hok).fsp;obtain⟨op,n,ins,kids⟩:=f;simp only[Zga 118,awp_seq,awp_reg,awp_cond,Zge 118 0,Zge 118 1,entry];simp[F.V_eq]at h1 h2 h3 ⊢;refine⟨_,_,h1 _,?_⟩;generalize F.size (.mk op n ins kids)=sz at*;generalize F.depth (.mk op n ins kids)=dp at*;by_cases b1:96 <sz
 ·have b1':96 <(sz:Int):=by omega
  simp[b1]at hR;simp[b1',awp_ret,Zge 118 2,Zgr 118,hR]
 ·have b1':¬96 <(sz:Int):=by omega
  simp[b1'];refine⟨_,_,h2 _,?_⟩;by_cases b2:8 <dp
  ·have b2':8 <(dp:Int):=by omega
   simp[b2]at hR;simp[b2',awp_ret,Zge 118 2,Zgr 118,hR]
  ·have b2':¬8 <(dp:Int):=by omega
   simp[b1,b2]at hR;simp[b2',awp_skip,Zge 118 3];refine⟨_,_,h3 _,?_⟩;cases hw:wholeF (.mk op n ins kids)with
   |false=>simp[hw]at hR;simp[awp_ret,Zge 118 4,Zgr 118,hR]
   |true=>simp[hw]at hR;simp[awp_ret,Zge 118 5,Zgr 118,hR]
def IdxR (P:Program) (GL:Globals) (fid:Nat) (caps:List D):List V→List Row→Option Nat→List Row→Prop
 |[],h,r,h'=>r=none∧h'=h
 |x::xs,h,r,h'=>∃b h1,FSp P GL fid (.v x::caps) h [.v (.bool b)] h1∧if b then r=some 0∧h'=h1 else ∃r',IdxR P GL fid caps xs h1 r' h'∧r=r'.map (· +1)
def idxI:Option Nat→Int
 |none=> -1
 |some k=>k
theorem findIdx_any {α:Type} (p:α→Bool) (xs:List α):(xs.findIdx? p).isSome=xs.any p:=by
 induction xs with
 |nil=>rfl
 |cons x xs ih=>
  cases hx:p x with
  |true=>simp[List.findIdx?_cons,hx]
  |false=>simp only[List.findIdx?_cons,hx,List.any_cons,Bool.false_or,Bool.false_eq_true,if_false,Option.isSome_map];exact ih
theorem idxI_ge (r:Option Nat):(0≤idxI r)↔r.isSome=true:=by
 cases r with
 |none=>simp[idxI]
 |some k=>simp[idxI]
structure FV (fd:D) (fid:Nat) (caps:List D):Prop where
 cp:fd.copy=fd
 fn:fnOf fd=some (fid,caps)
 nm:fd.norm=fd
 ny:∀r,fd≠ .yld r
 nt:∀a b,fd≠ .meth a b
theorem FV.v (fid:Nat) (vs:List V):FV (.v (.func fid vs)) fid (vs.map .v):=⟨rfl,rfl,rfl,(λ_ h=>by cases h),(λ_ _ h=>by cases h)⟩
theorem FV.r (fid r o:Nat) (caps:List D):FV (.func fid (.ref r o::caps)) fid (.ref r o::caps):=by
 have e:D.norm (.func fid (.ref r o::caps))= .func fid (.ref r o::caps):=by simp[D.norm,D.vs?,D.v?]
 exact⟨rfl,by unfold fnOf;rw[e],e,(λ_ h=>by cases h),(λ_ _ h=>by cases h)⟩
def okE (s:Nat):Bool→V→Prop
 |true,x=>∃cs,x= .agg cs∧cs.length=s
 |false,x=>s=1∧∃n,x= .int .i64 n
theorem lIa (s:Nat) (g:Bool) (fd:D) (fid:Nat) (caps:List D) (hf:FV fd fid caps) (all:List V) (m:Nat) (hm2:all.length=m) (hlen:m <2^40)
  (Q:AExit→St→Prop):∀(xs:List V) (k:Nat) (h:List Row) (r:Option Nat) (h':List Row),all.drop k=xs→k≤m→(∀x∈xs,okE s g x)→IdxR Tryz.prog GLx fid caps xs h r h'→
  (r=none→∀e,find e 0= .v (.list all)→Q (.exit 0) ⟨e,h'⟩)→(∀j,r=some j→∀e,find e 4= .v (.int .i64 ((k+j:Nat):Int))→Q .ret ⟨e,h'⟩)→
  awp Tryz.prog GLx (.loop (cIl0 s g)) Q ⟨[(0,.v (.list all)),(1,fd),(7,.v (.int .i64 m)),(8,.v (.int .i64 k))],h⟩:=by
 have hfn:=hf.nm;have hcp:=hf.cp;have hcp2:=hf.cp;simp only[D.copy]at hcp2;intro xs;induction xs with
 |nil=>
  rintro k h r h' hd hk hc ⟨rfl,rfl⟩ hn hs;have h0:m≤k:=by rw[←hm2];exact List.drop_eq_nil_iff.1 hd
  refine awp_loop_end ?_;simp only[cIl0,awp_seq,awp_reg,awp_block,awp_cond,cIr2];have h2:¬(k:Int) <m:=by omega
  simp[h2,awp_exit];exact hn rfl _ rfl
 |cons x xs ih=>
  rintro k h r h' hd hk hc ⟨b,h1,hb,hr⟩ hn hs;have hx:all[k]?=some x:=by have:=congrArg (·[0]?) hd;simpa using this
  have hkl:k <m:=by rw[←hm2];exact(List.getElem?_eq_some_iff.1 hx).1
  have hd':all.drop (k+1)=xs:=by have:=congrArg (List.drop 1) hd;simpa using this
  have hw:IntKind.i64.wrap ((k:Int)+1)=k+1:=wrap_i64 (by omega) (by omega);have hkl':(k:Int) <m:=by omega
  have hcx:=hc x (by simp);have step:awp Tryz.prog GLx (cIl0 s g) (λe s'=>match e with| .normal=>b=false∧s'=⟨[(0,.v (.list all)),(1,fd),(7,.v (.int .i64 m)),(8,.v (.int .i64 (k+1:Nat)))],h1⟩| .ret=>b=true∧find s'.e 4= .v (.int .i64 k)∧s'.h=h1| .exit _=>False) ⟨[(0,.v (.list all)),(1,fd),(7,.v (.int .i64 m)),(8,.v (.int .i64 k))],h⟩:=by
   cases g with
   |true=>
    obtain⟨cs,rfl,hcs⟩:=hcx;simp only[cIl0,awp_seq,awp_reg,awp_block,awp_cond,cIr2];simp[hkl',awp_skip,cIr3,cIr4,hx,hcp2,-awpCall,hcs];have hcall:∀(K:St→Prop) (e:Env),find e 11=fd→find e 15= .v (.agg cs)→K ⟨setO e (some 16) (.v (.bool b)),h1⟩→awpCall Tryz.prog GLx (some 16) (.t 11 false) [.t 15 false] K ⟨e,h⟩:=by
     intro K e e1 e2 hK;unfold awpCall;have e3:(Opd.t 11 false).ev e=fd:=by simp only[Opd.ev,findF_eq,Bool.false_eq_true,if_false,e1,hcp]
     rw[e3];split
     ·rename_i q;exact absurd rfl (hf.ny _)
     ·rename_i q;exact absurd rfl (hf.nt _ _)
     ·rw[hf.fn];refine⟨[.v (.bool b)],h1,?_,hK⟩;simpa[e2]using hb
    refine hcall _ _ ?_ ?_ ?_
    ·simp
    ·simp[List.take_of_length_le (Nat.le_of_eq hcs)]
    cases b with
    |false=>simp[cIr6,hw]
    |true=>simp[awp_ret,cIr5]
   |false=>
    obtain⟨rfl,y,rfl⟩:=hcx;simp only[cIl0,awp_seq,awp_reg,awp_block,awp_cond,cIr2];simp[hkl',awp_skip,cIr3,cIr4,hx,hcp2,-awpCall];have hcall:∀(K:St→Prop) (e:Env),find e 11=fd→find e 15= .v (.int .i64 y)→K ⟨setO e (some 16) (.v (.bool b)),h1⟩→awpCall Tryz.prog GLx (some 16) (.t 11 false) [.t 15 false] K ⟨e,h⟩:=by
     intro K e e1 e2 hK;unfold awpCall;have e3:(Opd.t 11 false).ev e=fd:=by simp only[Opd.ev,findF_eq,Bool.false_eq_true,if_false,e1,hcp]
     rw[e3];split
     ·rename_i q;exact absurd rfl (hf.ny _)
     ·rename_i q;exact absurd rfl (hf.nt _ _)
     ·rw[hf.fn];refine⟨[.v (.bool b)],h1,?_,hK⟩;simpa[e2]using hb
    refine hcall _ _ ?_ ?_ ?_
    ·simp
    ·simp
    cases b with
    |false=>simp[cIr6,hw]
    |true=>simp[awp_ret,cIr5]
  cases b with
  |false=>
   obtain⟨r',hr1,rfl⟩:=hr;refine awp_loop_one (awp_mono _ ?_ step) (ih (k+1) h1 r' h' hd' (by omega) (λy hy=>hc y (by simp[hy])) hr1 (λe=>hn (by rw[e];rfl)) ?_)
   ·intro e s' h;cases e with
    |normal=>exact h.2
    |exit i=>exact h.elim
    |ret=>cases h.1
   ·intro j e e1 e2;refine hs (j+1) (by rw[e];rfl) e1 ?_;rw[e2];congr 3;omega
  |true=>
   obtain⟨rfl,rfl⟩:=hr;refine awp_loop_end (awp_mono _ ?_ step);intro e s' h;cases e with
   |normal=>cases h.1
   |exit i=>exact h.elim
   |ret=>obtain⟨_,h2,h3⟩:=h;have:=hs 0 rfl s'.e h2;rw[←h3]at this;exact this
theorem pI {n s:Nat} {g:Bool} (hk:chkF Tryz.prog GLx n 2 (cI s g) cIR=true) (fd:D) (fid:Nat) (caps:List D) (hf:FV fd fid caps) (xs:List V) (hlen:xs.length <2^40) (hc:∀x∈xs,okE s g x) {h h':List Row} {r:Option Nat} (hr:IdxR Tryz.prog GLx fid caps xs h r h'):
  FSp Tryz.prog GLx n [.v (.list xs),fd] h [.v (.int .i64 (idxI r))] h':=by
 refine fsp_of_awp hk rfl ?_;have hcp:=hf.cp;simp only[D.copy]at hcp;simp only[cI,awp_seq,awp_reg,awp_block,cIr0,cIr1,entryD];simp;refine lIa s g fd fid caps hf xs xs.length rfl hlen _ xs 0 h r h' rfl (Nat.zero_le _) hc hr ?_ ?_
 ·rintro rfl e he;simp[awp_ret,cIr7,cIR,idxI]
 ·rintro j rfl e he;simp at he;simp[he,cIR,idxI]
theorem pJ {n f:Nat} (hk:chkF Tryz.prog GLx n 2 (cJ f) cIR=true) (fd:D) (fid:Nat) (caps:List D) (hf:FV fd fid caps) (xs:List V) {h h':List Row} {r:Option Nat} (hp:FSp Tryz.prog GLx f [.v (.list xs),fd] h [.v (.int .i64 (idxI r))] h'):
  FSp Tryz.prog GLx n [.v (.list xs),fd] h [.v (.bool r.isSome)] h':=by
 refine fsp_of_awp hk rfl ?_;have hcp:=hf.cp;simp only[D.copy]at hcp;have hnm:=hf.nm;have hge:=idxI_ge r;simp only[cJ,awp_seq,awp_reg,cJr0,cJr1,entryD];simp[hcp,-D.norm];rw[hnm];refine⟨_,_,hp,?_⟩;simp[awp_ret,cIR,hge]
theorem p251 (fd:D) (fid:Nat) (caps:List D) (hf:FV fd fid caps) (xs:List V) (hlen:xs.length <2^40) (hc:∀x∈xs,∃cs,x= .agg cs∧cs.length=4) {h h':List Row} {r:Option Nat} (hr:IdxR Tryz.prog GLx fid caps xs h r h'):
  FSp Tryz.prog GLx 220 [.v (.list xs),fd] h [.v (.int .i64 (idxI r))] h':=pI k251 fd fid caps hf xs hlen hc hr
theorem p252 (fd:D) (fid:Nat) (caps:List D) (hf:FV fd fid caps) (xs:List V) (hlen:xs.length <2^40) (hc:∀x∈xs,∃n,x= .int .i64 n) {h h':List Row} {r:Option Nat} (hr:IdxR Tryz.prog GLx fid caps xs h r h'):
  FSp Tryz.prog GLx 159 [.v (.list xs),fd] h [.v (.int .i64 (idxI r))] h':=pI k252 fd fid caps hf xs hlen (λx hx=>⟨rfl,hc x hx⟩) hr
theorem p272 (fd:D) (fid:Nat) (caps:List D) (hf:FV fd fid caps) (xs:List V) (hlen:xs.length <2^40) (hc:∀x∈xs,∃cs,x= .agg cs∧cs.length=3) {h h':List Row} {r:Option Nat} (hr:IdxR Tryz.prog GLx fid caps xs h r h'):
  FSp Tryz.prog GLx 160 [.v (.list xs),fd] h [.v (.int .i64 (idxI r))] h':=pI k272 fd fid caps hf xs hlen hc hr
theorem p318 (fd:D) (fid:Nat) (caps:List D) (hf:FV fd fid caps) (xs:List V) (hlen:xs.length <2^40) (hc:∀x∈xs,∃cs,x= .agg cs∧cs.length=4) {h h':List Row} {r:Option Nat} (hr:IdxR Tryz.prog GLx fid caps xs h r h'):
  FSp Tryz.prog GLx 158 [.v (.list xs),fd] h [.v (.int .i64 (idxI r))] h':=pI k318 fd fid caps hf xs hlen hc hr
theorem p323 (fd:D) (fid:Nat) (caps:List D) (hf:FV fd fid caps) (xs:List V) (hlen:xs.length <2^40) (hc:∀x∈xs,∃cs,x= .agg cs∧cs.length=4) {h h':List Row} {r:Option Nat} (hr:IdxR Tryz.prog GLx fid caps xs h r h'):
  FSp Tryz.prog GLx 162 [.v (.list xs),fd] h [.v (.int .i64 (idxI r))] h':=pI k323 fd fid caps hf xs hlen hc hr
theorem p149 (fd:D) (fid:Nat) (caps:List D) (hf:FV fd fid caps) (xs:List V) (hlen:xs.length <2^40) (hc:∀x∈xs,∃cs,x= .agg cs∧cs.length=4) {h h':List Row} {r:Option Nat} (hr:IdxR Tryz.prog GLx fid caps xs h r h'):
  FSp Tryz.prog GLx 165 [.v (.list xs),fd] h [.v (.bool r.isSome)] h':=pJ k149 fd fid caps hf xs (p251 fd fid caps hf xs hlen hc hr)
theorem p151 (fd:D) (fid:Nat) (caps:List D) (hf:FV fd fid caps) (xs:List V) (hlen:xs.length <2^40) (hc:∀x∈xs,∃n,x= .int .i64 n) {h h':List Row} {r:Option Nat} (hr:IdxR Tryz.prog GLx fid caps xs h r h'):
  FSp Tryz.prog GLx 107 [.v (.list xs),fd] h [.v (.bool r.isSome)] h':=pJ k151 fd fid caps hf xs (p252 fd fid caps hf xs hlen hc hr)
theorem p183 (fd:D) (fid:Nat) (caps:List D) (hf:FV fd fid caps) (xs:List V) (hlen:xs.length <2^40) (hc:∀x∈xs,∃cs,x= .agg cs∧cs.length=3) {h h':List Row} {r:Option Nat} (hr:IdxR Tryz.prog GLx fid caps xs h r h'):
  FSp Tryz.prog GLx 109 [.v (.list xs),fd] h [.v (.bool r.isSome)] h':=pJ k183 fd fid caps hf xs (p272 fd fid caps hf xs hlen hc hr)
theorem p277 (fd:D) (fid:Nat) (caps:List D) (hf:FV fd fid caps) (xs:List V) (hlen:xs.length <2^40) (hc:∀x∈xs,∃cs,x= .agg cs∧cs.length=4) {h h':List Row} {r:Option Nat} (hr:IdxR Tryz.prog GLx fid caps xs h r h'):
  FSp Tryz.prog GLx 105 [.v (.list xs),fd] h [.v (.bool r.isSome)] h':=pJ k277 fd fid caps hf xs (p318 fd fid caps hf xs hlen hc hr)
theorem p293 (fd:D) (fid:Nat) (caps:List D) (hf:FV fd fid caps) (xs:List V) (hlen:xs.length <2^40) (hc:∀x∈xs,∃cs,x= .agg cs∧cs.length=4) {h h':List Row} {r:Option Nat} (hr:IdxR Tryz.prog GLx fid caps xs h r h'):
  FSp Tryz.prog GLx 113 [.v (.list xs),fd] h [.v (.bool r.isSome)] h':=pJ k293 fd fid caps hf xs (p323 fd fid caps hf xs hlen hc hr)
set_option maxHeartbeats 2000000 in
theorem l144a (f:F) (Q:AExit→St→Prop) (hQ:Q .normal ⟨[(1,.ref 0 0),(27,.v (.bool (odd1 f)))],[.cells f.cells]⟩):
  awp Tryz.prog GLx (.reg (oG 157 1) [1,27]) Q ⟨[(1,.ref 0 0)],[.cells f.cells]⟩:=by
 obtain⟨B,hB⟩:∃B,odd1 f=B:=⟨_,rfl⟩;rw[hB]at hQ;obtain⟨op,n,ins,kids⟩:=f;simp only[F.cells,odd1,F.op,F.n,F.ins,F.kids]at*;rw[awp_reg];simp only[Zge 157 1];by_cases h2:op=2
 ·subst h2;simp at hB;subst hB;simpa using hQ
 ·by_cases hl:0 <ins.length
  ·have hl':0 <(ins.length:Int):=by omega
   simp[h2,hl]at hB;subst hB;simp[h2,hl];exact hQ
  ·have hl':¬0 <(ins.length:Int):=by omega
   have hl2:ins=[]:=by cases ins<;>simp_all
   subst hl2;by_cases h1:op=1
   ·subst h1;simp at hB;subst hB;simpa using hQ
   ·by_cases hn:n=0
    ·subst hn;simp at hB;subst hB;simp[h2,h1];exact hQ
    ·have hn2:(n != 0)=true:=by simpa using hn
     simp[h2,h1,hn]at hB;subst hB;simp[h2,h1,hn2];exact hQ
set_option maxHeartbeats 4000000 in
theorem p144 (f:F) (hf:f.ok1):PSp Tryz.prog GLx 157 [f.V] [.bool (formedF f)]:=by
 refine psp_of_awp (Zkk 157) rfl ?_;obtain⟨R,hR⟩:∃R,formedF f=R:=⟨_,rfl⟩;rw[hR];have hp:=(p246 f.ins hf.2.2.1 hf.2.2.2).fsp;rw[Zga 157];rw[awp_seq,awp_reg];obtain⟨op,n,ins,kids⟩:=f;simp only[F.V_eq,F.ins]at*;simp[Zge 157 0,entry];rw[awp_seq,awp_seq];have ha:=l144a ⟨op,n,ins,kids⟩;simp only[F.cells,F.op,F.n,F.ins,F.kids]at ha;refine ha _ ?_;simp[awp_cond];cases ho:odd1 ⟨op,n,ins,kids⟩with
 |true=>
  rw[formedF_odd ho]at hR;simp[awp_seq,awp_reg,awp_ret,Zge 157 2,Zgr 157,hR]
 |false=>
  rw[formedF_even ho]at hR;simp only[F.op,F.n,F.ins,F.kids]at hR;simp only[awp_skip,if_neg Bool.false_ne_true];simp only[awp_seq,awp_reg,awp_block,awp_cond,Zge 157 3,Zge 157 4,Zge 157 5];simp;by_cases h0:op=0
  ·subst h0;simp at hR;simp[awp_ret,Zge 157 6,Zgr 157,natBeq0,hR]
  ·simp only[h0,if_false]at hR;simp[h0,Zge 157 7];by_cases h1:op=1
   ·subst h1;simp at hR;simp[awp_ret,Zge 157 8];by_cases hk:kids.length=0
    ·have hk2:kids=[]:=List.length_eq_zero_iff.1 hk;subst hk2;by_cases b1:0≤n<;>by_cases b2:n <64<;>simp[b1,b2]at hR<;>simp[b1,b2,Zgr 157,hR]
    ·have hk2:¬kids=[]:=λh=>hk (by rw[h];rfl);simp[hk2]at hR;simp[hk2,Zgr 157,hR]
   ·simp only[h1,if_false]at hR;simp[h1,Zge 157 9];by_cases h2:op=2
    ·subst h2;simp at hR;simp[awp_ret,Zge 157 10];by_cases hk:kids.length=0
     ·have hk2:kids=[]:=List.length_eq_zero_iff.1 hk;subst hk2;by_cases b1:0≤n<;>by_cases b2:n <32<;>simp[b1,b2]at hR<;>simp[b1,b2,Zgr 157,hR]
      refine⟨_,_,hp _,?_⟩;simp;rw[←hR,Bool.eq_iff_iff];simp
     ·have hk2:¬kids=[]:=λh=>hk (by rw[h];rfl);simp[hk2]at hR;simp[hk2,Zgr 157,hR]
    ·simp only[h2,if_false]at hR;simp[h2,Zge 157 11];by_cases h3:op=3
     ·subst h3;simp at hR;simp[awp_skip,awp_ret,Zge 157 13,Zgr 157,natBeq1,hR]
     ·simp[h3,awp_skip,Zge 157 12];by_cases h6:op=6
      ·subst h6;simp at hR;simp[awp_ret,Zge 157 13,Zgr 157,natBeq1,hR]
      ·simp[h3,h6]at hR;simp[h6,awp_ret,Zge 157 14];by_cases h4:op=4<;>by_cases h5:op=5<;>simp[h4,h5]at hR<;>simp[h4,h5,Zgr 157,hR]
theorem p143:∀f:F,f.ok→PSp Tryz.prog GLx 156 [f.V] [.int .i64 f.depth]:=by
 refine F.ind λop n ins kids ih hok=>?_;refine psp_of_awp (Zkk 156) rfl ?_;have hsz:=hok.2;rw[F.size_eq]at hsz;have hkl:=F.kids_len kids;have hdl:=depths_le kids;simp only[Zga 156,awp_seq,awp_reg,awp_block,Zge 156 0,Zge 156 1,Zge 156 2,entry];simp[F.V_eq];refine awp_loop_I kids.length (λk s=>s.e=[(3,.v (.int .i64 (F.depths (kids.take k)))),(7,.v (.list (kids.map F.V))),(8,.v (.int .i64 kids.length)),(9,.v (.int .i64 k))]) (by simp[F.depths]) ?_;rintro k ⟨se,sh⟩ hk he;simp only at he;subst he;simp only[Zgl 156 0,awp_seq,awp_reg,awp_block,awp_cond,Zge 156 3];simp;by_cases h1:k <kids.length
 ·obtain⟨x,hx⟩:∃x,kids[k]?=some x:=⟨_,List.getElem?_eq_getElem h1⟩;have hxm:=List.mem_of_getElem? hx;have hw:IntKind.i64.wrap ((k:Int)+1)=k+1:=wrap_i64 (by omega) (by omega);have p1:=(ih x hxm (F.ok_kid hok hxm)).fsp;have ht:=depths_take hx;rw[if_pos (by omega),awp_skip];simp only[Zge 156 4,Zge 156 5,Zge 156 6];obtain⟨xo,xn,xi,xk⟩:=x;simp[F.V_eq]at p1;simp[hx,F.V_eq,putL];refine⟨_,_,p1 _,?_⟩;simp[hw,h1,ht];split<;>omega
 ·have hk2:k=kids.length:=by omega
  subst hk2;rw[if_neg (by omega),awp_exit];have hw2:IntKind.i64.wrap ((F.depths kids:Int)+1)=F.depths kids+1:=wrap_i64 (by omega) (by omega);simp[awp_ret,Zge 156 7,Zgr 156,hw2,F.depth]
def RunY (P:Program) (GL:Globals) (r:Nat):List V→List Row→Bool→List Row→Prop
 |[],X,b,X'=>b=true∧X'=X
 |n::ns,X,b,X'=>∃b1 X1,X1.length=X.length∧(∀J,∃J2,YSp P GL r [.v n] (X++J) b1 (X1++(J++J2)))∧if b1 then RunY P GL r ns X1 b X' else b=false∧X'=X1
section
variable {P:Program} {GL:Globals} {r:Nat}
theorem RunY.len:∀ {ns:List V} {X:List Row} {b:Bool} {X':List Row},RunY P GL r ns X b X'→X'.length=X.length
 |[],X,b,X',h=>by rw[h.2]
 |n::ns,X,b,X',h=>by
  obtain⟨b1,X1,h1,_,h2⟩:=h;cases b1 with
  |true=>rw[RunY.len h2,h1]
  |false=>rw[h2.2,h1]
theorem RunY.app:∀ {xs ys:List V} {X:List Row} {b:Bool} {X':List Row},RunY P GL r (xs++ys) X b X'→∃b1 X1,RunY P GL r xs X b1 X1∧if b1 then RunY P GL r ys X1 b X' else b=false∧X'=X1
 |[],ys,X,b,X',h=>⟨true,X,⟨rfl,rfl⟩,h⟩
 |x::xs,ys,X,b,X',h=>by
  obtain⟨b1,X1,h1,h2,h3⟩:=h;cases b1 with
  |true=>
   obtain⟨b2,X2,h4,h5⟩:=RunY.app (xs:=xs) h3;exact⟨b2,X2,⟨true,X1,h1,h2,h4⟩,h5⟩
  |false=>exact⟨false,X1,⟨false,X1,h1,h2,rfl,rfl⟩,h3⟩
end
theorem p150 (x:F) (c:Nat) (h:List Row) (a:Nat) (hc:h[c]?=some (.cells [.func 164 [.ref a 0,.ref c 0]])) (b:Bool) (h':List Row)
  (hp:FSp Tryz.prog GLx 164 [.v x.V,.ref a 0,.ref c 0] (h++[.cells x.cells]) [.v (.bool b)] h'):FSp Tryz.prog GLx 166 [.v x.V,.ref c 0] h [.v (.bool (!b))] h':=by
 refine fsp_of_awp (Zkk 166) rfl ?_;have hc2:=get_old [.cells x.cells] hc;obtain⟨xo,xn,xi,xk⟩:=x;simp only[F.cells,F.op,F.n,F.ins,F.kids,F.V_eq]at*;simp only[Zga 166,awp_seq,awp_reg,Zge 166 0,Zge 166 1,entryD];simp[hc2,D.vs?,D.v?];refine⟨_,_,hp,?_⟩;simp[awp_ret,Zgr 166]
theorem l148 (r:Nat) (a c:Nat) (kids:List F) (hk:∀k∈kids,∀X b X' J i j,a=X.length+i→c=X.length+j→RunY Tryz.prog GLx r (k.nodes.map F.V) X b X'→J[i]?=some (.cells [.yld r])→J[j]?=some (.cells [.func 164 [.ref a 0,.ref c 0]])→
   ∃J',FSp Tryz.prog GLx 164 [.v k.V,.ref a 0,.ref c 0] (X++J) [.v (.bool b)] (X'++(J++J'))):
  ∀(X:List Row) (b:Bool) (X':List Row) (J:List Row) (i j:Nat),a=X.length+i→c=X.length+j→RunY Tryz.prog GLx r ((kids.flatMap F.nodes).map F.V) X b X'→J[i]?=some (.cells [.yld r])→J[j]?=some (.cells [.func 164 [.ref a 0,.ref c 0]])→
   ∃J' q,IdxR Tryz.prog GLx 166 [.ref c 0] (kids.map F.V) (X++J) q (X'++(J++J'))∧q.isSome= !b:=by
 induction kids with
 |nil=>
  rintro X b X' J i j ha hc ⟨rfl,rfl⟩ hi hj;exact⟨[],none,⟨rfl,by simp⟩,rfl⟩
 |cons k ks ih=>
  intro X b X' J i j ha hc hr hi hj;rw[List.flatMap_cons,List.map_append]at hr;obtain⟨b1,X1,h1,h2⟩:=hr.app;have hl:=h1.len;obtain⟨J1,hp⟩:=hk k (by simp) X b1 X1 (J++[.cells k.cells]) i j ha hc h1 (get_old _ hi) (get_old _ hj);have hcc:(X++J)[c]?=some (.cells [.func 164 [.ref a 0,.ref c 0]]):=by rw[get_appk X J c j hc];exact hj
  rw[←List.append_assoc]at hp;have hq:=p150 k c (X++J) a hcc b1 _ hp;cases b1 with
  |true=>
   simp only[if_true]at h2;obtain⟨J2,q,h3,h4⟩:=ih (λx hx=>hk x (by simp[hx])) X1 b X' (J++[.cells k.cells]++J1) i j (by rw[hl];exact ha) (by rw[hl];exact hc) h2 (get_old _ (get_old _ hi)) (get_old _ (get_old _ hj));refine⟨[.cells k.cells]++J1++J2,q.map (· +1),⟨false,_,hq,?_⟩,by cases q<;>simpa using h4⟩
   simp only[Bool.false_eq_true,if_false];refine⟨q,?_,rfl⟩;simpa[List.append_assoc]using h3
  |false=>
   simp only[Bool.false_eq_true,if_false]at h2;obtain⟨rfl,rfl⟩:=h2;refine⟨[.cells k.cells]++J1,some 0,⟨true,_,hq,?_⟩,rfl⟩;simp[List.append_assoc]
theorem p148 (r:Nat) (a c:Nat):∀f:F,f.ok→∀X b X' J i j,a=X.length+i→c=X.length+j→RunY Tryz.prog GLx r (f.nodes.map F.V) X b X'→J[i]?=some (.cells [.yld r])→J[j]?=some (.cells [.func 164 [.ref a 0,.ref c 0]])→
   ∃J',FSp Tryz.prog GLx 164 [.v f.V,.ref a 0,.ref c 0] (X++J) [.v (.bool b)] (X'++(J++J')):=by
 refine F.ind λop n ins kids ih hok=>?_;intro X b X' J i j ha hc hr hi hj;have hsz:=hok.2;rw[F.size_eq]at hsz;have hkl:=F.kids_len kids;rw[F.nodes_eq,List.map_cons]at hr;obtain⟨b1,X1,hl,hy,hr2⟩:=hr;obtain⟨J2,hy2⟩:=hy (J++[.cells (F.mk op n ins kids).cells]);have ga:(X++(J++[.cells (F.mk op n ins kids).cells]))[a]?=some (.cells [.yld r]):=by rw[get_appk X _ a i ha];exact get_old _ hi
 have gc:(X++(J++[.cells (F.mk op n ins kids).cells]))[c]?=some (.cells [.func 164 [.ref a 0,.ref c 0]]):=by rw[get_appk X _ c j hc];exact get_old _ hj
 have gf:(X++(J++[.cells (F.mk op n ins kids).cells]))[X.length+J.length]?=some (.cells (F.mk op n ins kids).cells):=by rw[get_appk X _ _ J.length rfl];simp
 have gf2:(X1++(J++[.cells (F.mk op n ins kids).cells]++J2))[X.length+J.length]?=some (.cells (F.mk op n ins kids).cells):=by rw[get_appk X1 _ _ J.length (by rw[hl])];simp
 have hkids:∀x∈kids.map F.V,∃cs,x=V.agg cs∧cs.length=4:=by
  intro x hx;obtain⟨k,_,rfl⟩:=List.mem_map.1 hx;obtain⟨ko,kn,ki,kk⟩:=k;exact⟨_,F.V_eq ..,rfl⟩
 have e0:X++J++[.cells (F.mk op n ins kids).cells]=X++(J++[.cells (F.mk op n ins kids).cells]):=List.append_assoc ..;cases b1 with
 |false=>
  obtain⟨rfl,rfl⟩:=hr2;refine⟨[.cells (F.mk op n ins kids).cells]++J2,fsp_of_awp (Zkk 164) rfl ?_⟩;simp only[F.cells,F.op,F.n,F.ins,F.kids,F.V_eq]at*;simp only[Zga 164,awp_seq,awp_reg,Zge 164 0,Zge 164 1,entryD];simp[-Bool.exists_bool];simp[ga,-Bool.exists_bool];refine⟨_,_,hy2,?_⟩;simp[awp_ret,Zgr 164]
 |true=>
  simp only[if_true]at hr2;obtain⟨J3,q,hidx,hq⟩:=l148 r a c kids (λk hk=>ih k hk (F.ok_kid hok hk)) X1 b X' (J++[.cells (F.mk op n ins kids).cells]++J2) i j (by rw[hl];exact ha) (by rw[hl];exact hc) hr2 (get_old _ (get_old _ hi)) (get_old _ (get_old _ hj));have hp:=p149 (.func 166 [.ref c 0]) 166 [.ref c 0] (FV.r 166 c 0 []) (kids.map F.V) (by simp;omega) hkids hidx;refine⟨[.cells (F.mk op n ins kids).cells]++J2++J3,fsp_of_awp (Zkk 164) rfl ?_⟩;simp only[F.cells,F.op,F.n,F.ins,F.kids,F.V_eq]at*;simp only[Zga 164,awp_seq,awp_reg,Zge 164 0,Zge 164 1,entryD];simp[-Bool.exists_bool];simp[ga,-Bool.exists_bool];refine⟨_,_,hy2,?_⟩;simp at gf2;simp[gf2,D.vs?,D.v?];simp at hp;rw[hq]at hp;refine⟨_,_,hp,?_⟩;simp[awp_ret,Zgr 164]
theorem p68 (f:F) (h:List Row):FSp Tryz.prog GLx 115 [.v f.V] h [.func 163 [.ref h.length 0]] (h++[.cells f.cells]):=by
 refine fsp_of_awp (Zkk 115) rfl ?_;obtain⟨op,n,ins,kids⟩:=f;simp[Zga 115,awp,Zge 115 0,Zge 115 1,Zgr 115,entryD,F.V_eq,F.cells,F.op,F.n,F.ins,F.kids,D.vs?,D.v?]
theorem p147 (f:F) (hok:f.ok) (r q:Nat) (X:List Row) (b:Bool) (X':List Row) (hr:RunY Tryz.prog GLx r (f.nodes.map F.V) X b X') (hq:X[q]?=some (.cells f.cells)):
  ∃J,FSp Tryz.prog GLx 163 [.yld r,.ref q 0] X [] (X'++J):=by
 obtain⟨J',hp⟩:=p148 r X.length (X.length+1) f hok X b X' [.cells [.yld r],.cells [.func 164 [.ref X.length 0,.ref (X.length+1) 0]]] 0 1 rfl rfl hr rfl rfl;refine⟨[.cells [.yld r],.cells [.func 164 [.ref X.length 0,.ref (X.length+1) 0]]]++J',fsp_of_awp (Zkk 163) rfl ?_⟩;obtain⟨op,n,ins,kids⟩:=f;have hq2:=get_old [.cells [.yld r],.cells [.func 164 [.ref X.length 0,.ref (X.length+1) 0]]] hq;simp only[F.cells,F.op,F.n,F.ins,F.kids,F.V_eq]at*;simp only[Zga 163,awp_seq,awp_reg,Zge 163 0,Zge 163 1,Zge 163 2,Zge 163 3,entryD];simp[putL,D.v?]
 try simp at hq2
 simp[hq2];exact⟨⟨_,hp⟩,rfl⟩
theorem l142 (A B:Row) (e0:Env) (he:find e0 3= .ref 1 0):∀(ns:List V) (k:Nat),k+ns.length≤2^41→
  RunY Tryz.prog GLx 3 ns [A,.cells [.v (.int .i64 k)],B,recRow Tryz.prog GLx .ready e0 [6] (lG 155 0) (lG 155 1000)] true [A,.cells [.v (.int .i64 (k+ns.length:Nat))],B,recRow Tryz.prog GLx .ready e0 [6] (lG 155 0) (lG 155 1000)]:=by
 intro ns;induction ns with
 |nil=>intro k _;exact⟨rfl,rfl⟩
 |cons n ns ih=>
  intro k hk;simp only[List.length_cons]at hk;refine⟨true,[A,.cells [.v (.int .i64 (k+1:Nat))],B,recRow Tryz.prog GLx .ready e0 [6] (lG 155 0) (lG 155 1000)],rfl,λJ=>⟨[],?_⟩,?_⟩
  ·refine ysp_of_awp (e0:=e0) (ps:=[6]) (asg:=(lG 155 0)) (body:=(lG 155 1000)) (by simp) rfl ?_;have hw:IntKind.i64.wrap ((k:Int)+1)=k+1:=wrap_i64 (by omega) (by omega);simp only[setPs,Zgl 155 0,Zgl 155 1000,awp_reg,awp_block,awp_skip,Zge 155 3];simp[he,hw,putL,roundEnd]
  ·have:=ih (k+1) (by omega);have e:k+1+ns.length=k+(n::ns).length:=by simp;omega
   rw[e]at this;exact this
theorem p142 (f:F) (hok:f.ok):PSp Tryz.prog GLx 155 [f.V] [.int .i64 f.size]:=by
 refine psp_of_awp (Zkk 155) rfl ?_;have hsz:=hok.2;have h68:=p68 f;have hr:=l142 (.cells f.cells) (.cells f.cells) (cpE [(3,.ref 1 0),(5,.func 163 [.ref 2 0])]) rfl (f.nodes.map F.V) 0 (by simp;unfold F.size at hsz;omega);obtain⟨J,hp⟩:=p147 f hok 3 2 _ _ _ hr rfl;have e1:(f.nodes.map F.V).length=f.size:=by simp[F.size]
 rw[e1,Nat.zero_add]at hp;generalize f.size=sz at*;obtain⟨op,n,ins,kids⟩:=f;simp only[F.cells,F.op,F.n,F.ins,F.kids,F.V_eq]at*;simp only[Zga 155,awp_seq,awp_reg,awp_block,Zge 155 0,Zge 155 1,Zge 155 2,entry];simp[putL];refine⟨_,_,h68 _,?_⟩;simp;refine awp_range_of 163 [.ref 2 0] [] _ _ .ready rfl rfl hp rfl ?_;simp[rangeEnd,Zge 155 4,awp_ret,Zgr 155]
theorem y66 (A B:Row) (e0:Env) (he:find e0 2= .ref 1 0) (g:F) (hg:g.ok1) (J:List Row):∃J2,YSp Tryz.prog GLx 3 [.v g.V] ([A,.cells [.v (.int .i64 0)],B,recRow Tryz.prog GLx .ready e0 [14] (lG 104 0) (lG 104 1000)]++J) (formedF g)
   ((if formedF g then [A,.cells [.v (.int .i64 0)],B,recRow Tryz.prog GLx .ready e0 [14] (lG 104 0) (lG 104 1000)] else [A,.cells [.v (.int .i64 1)],B,recRow Tryz.prog GLx (.done none) e0 [14] (lG 104 0) (lG 104 1000)])++(J++J2)):=by
 refine⟨[.cells g.cells],ysp_of_awp (e0:=e0) (ps:=[14]) (asg:=(lG 104 0)) (body:=(lG 104 1000)) (by simp) rfl ?_⟩;have hp:=(p144 g hg).fsp;generalize formedF g=b at*;obtain⟨op,n,ins,kids⟩:=g;simp only[F.cells,F.op,F.n,F.ins,F.kids,F.V_eq]at*;simp only[setPs,Zgl 104 0,Zgl 104 1000,awp_reg,awp_block,awp_seq,awp_cond,Zge 104 4,Zge 104 5];have e:J.length+1+1+1+1=J.length+4:=by omega
 simp[he,putL];simp at hp;refine⟨_,_,hp _,?_⟩;cases b with
 |true=>simp[awp_skip,roundEnd]
 |false=>simp[awp_ret,Zge 104 6,putL,roundEnd]
theorem l66 (A B:Row) (e0:Env) (he:find e0 2= .ref 1 0):∀(ns:List F),(∀g∈ns,g.ok1)→
  RunY Tryz.prog GLx 3 (ns.map F.V) [A,.cells [.v (.int .i64 0)],B,recRow Tryz.prog GLx .ready e0 [14] (lG 104 0) (lG 104 1000)] (ns.all formedF)
   (if ns.all formedF then [A,.cells [.v (.int .i64 0)],B,recRow Tryz.prog GLx .ready e0 [14] (lG 104 0) (lG 104 1000)] else [A,.cells [.v (.int .i64 1)],B,recRow Tryz.prog GLx (.done none) e0 [14] (lG 104 0) (lG 104 1000)]):=by
 intro ns;induction ns with
 |nil=>intro _;exact⟨rfl,rfl⟩
 |cons n ns ih=>
  intro hk;have hy:=y66 A B e0 he n (hk n (by simp));refine⟨formedF n,_,?_,hy,?_⟩
  ·split<;>rfl
  ·cases hf:formedF n with
   |true=>
    simp only[if_true,List.all_cons,hf,Bool.true_and];exact ih λg hg=>hk g (by simp[hg])
   |false=>simp[hf]
theorem p66 (f:F) (hok:f.ok):PSp Tryz.prog GLx 104 [f.V] [.int .i64 (formE f)]:=by
 refine psp_of_awp (Zkk 104) rfl ?_;obtain⟨R,hR⟩:∃R,formE f=R:=⟨_,rfl⟩;rw[hR];unfold formE at hR;have h1:=(p142 f hok).fsp;have h2:=(p143 f hok).fsp;have h68:=p68 f;have hr:=l66 (.cells f.cells) (.cells f.cells) (cpE [(2,.ref 1 0),(13,.func 163 [.ref 2 0])]) rfl f.nodes hok.1;obtain⟨J,hp⟩:=p147 f hok 3 2 _ _ _ hr rfl;generalize f.nodes.all formedF=al at*;generalize f.size=sz at*;generalize f.depth=dp at*;obtain⟨op,n,ins,kids⟩:=f;simp only[F.cells,F.op,F.n,F.ins,F.kids,F.V_eq]at*;simp only[Zga 104,awp_seq,awp_reg,awp_block,awp_cond,Zge 104 0,Zge 104 1,entry];simp at h1 h2 h68;simp;refine⟨_,_,h1 _,?_⟩;by_cases b1:96 <sz
 ·have b1':96 <(sz:Int):=by omega
  simp[b1]at hR;simp[b1',awp_ret,Zge 104 2,Zgr 104,putL,hR]
 ·have b1':¬96 <(sz:Int):=by omega
  simp[b1'];refine⟨_,_,h2 _,?_⟩;by_cases b2:8 <dp
  ·have b2':8 <(dp:Int):=by omega
   simp[b2]at hR;simp[b2',awp_ret,Zge 104 2,Zgr 104,putL,hR]
  ·have b2':¬8 <(dp:Int):=by omega
   simp[b1,b2]at hR;simp[b2',awp_skip,Zge 104 3];refine⟨_,_,h68 _,?_⟩;simp;cases al with
   |true=>
    simp at hR;refine awp_range_of 163 [.ref 2 0] [] _ _ .ready rfl rfl hp rfl ?_;simp[rangeEnd,awp_ret,Zge 104 7,Zgr 104,putL,hR]
   |false=>
    simp at hR;refine awp_range_of 163 [.ref 2 0] [] _ _ (.done none) rfl rfl hp rfl ?_;simp[rangeEnd,Zgr 104,hR]
def b01 (b:Bool):Int:=if b then 1 else 0
def encIvl (x:Ivl):List Int:=encInts [x.ln,x.ld,x.hn,x.hd,b01 x.lo,b01 x.ho,b01 x.li,b01 x.hi]
def encNode (f:F):List Int:=encI f.op++(encI f.n++(encI f.ins.length++(f.ins.flatMap encIvl++encI f.kids.length)))
def encF (f:F):List Int:=f.nodes.flatMap encNode
theorem p295 (b:Bool):PSp Tryz.prog GLx 116 [.bool b] [.int .i64 (b01 b)]:=by
 refine psp_of_awp (Zkk 116) rfl ?_;cases b<;>simp[Zga 116,awp,Zge 116 0,Zge 116 1,Zge 116 2,Zge 116 3,Zgr 116,entry,b01]
theorem p339 (b:Bool):PSp Tryz.prog GLx 222 [.bool b] [.int .i64 (b01 b)]:=by
 refine psp_of_awp (Zkk 222) rfl ?_;cases b<;>simp[Zga 222,awp,Zge 222 0,Zge 222 1,Zge 222 2,Zge 222 3,Zgr 222,entry,b01]
theorem bytesOf_nums:∀(xs:List Int),(∀x∈xs,0≤x∧x <256)→bytesOf (xs.map (V.int .u8))=some (xs.map λn=>UInt8.ofNat n.toNat)
 |[],_=>rfl
 |x::xs,h=>by
  have:=bytesOf_nums xs λy hy=>h y (by simp[hy]);simp only[List.map_cons,bytesOf];rw[if_pos (h x (by simp)),this];rfl
theorem p99 (xs:List Int) (hx:∀x∈xs,0≤x∧x <256) (hb:xs.length≤2^40) (h:List Row) (r:Nat) (ys:List Int) (hr:h[r]?=some (wr ys)) (hl:ys.length≤2^45):FSp Tryz.prog GLx 23 [.ref r 0,.v (nums .u8 xs)] h [] (h.set r (wr (ys++encRaw xs))):=by
 refine fsp_of_awp (Zkk 23) rfl ?_;obtain⟨b,hb1,hb2⟩:∃b:ByteArray,bytesOf (xs.map (V.int .u8))=some b.data.toList∧bytesI b=xs:=by
  refine⟨⟨(xs.map λn=>UInt8.ofNat n.toNat).toArray⟩,by rw[bytesOf_nums xs hx],?_⟩;simp only[bytesI,List.map_map];conv=>rhs;rw[←List.map_id xs]
  refine List.map_congr_left λn hn=>?_;obtain⟨h1,h2⟩:=hx n hn;simp only[Function.comp,id];rw[UInt8.toNat_ofNat_of_lt' (by simp[UInt8.size];omega)];omega
 have hsz:b.size=xs.length:=by rw[←bytesI_size,hb2]
 simp[Zga 23,awp,Zge 23 0,Zgr 23,entryD,nums,hb1];have hp:=p194 b (by omega) h r ys hr hl;rw[hb2]at hp;exact⟨_,hp⟩
theorem p107v (l:List Int) (hi:∀n∈l,i64 n) (hb:l.length≤2^40):PSp Tryz.prog GLx 30 [nums .i64 l] [nums .u8 (encInts l)]:=by
 refine psp_of_awp (Zkk 30) rfl ?_;have w1:IntKind.u64.wrap (l.length:Int)=l.length:=wrap_u64 (by omega) (by omega);simp only[Zga 30,awp_seq,awp_block,awp_reg,Zge 30 0,Zge 30 1,Zge 30 2,entry];simp[nums,w1];refine⟨_,_,(p198 l.length ⟨by omega,by omega⟩ []),?_⟩;have hu:=uvar_len l.length;simp;refine awp_loop_nat0 l.length (λk=>⟨[(0,.v (nums .i64 l)),(3,.own 5 1 ((uvar l.length++(l.take k).flatMap encI).map (.int .u8))),(4,.v (.int .i64 k))],[]⟩) (by simp[nums]) ?_;intro k hk;simp only[Zgl 30 0,awp_seq,awp_reg,awp_block,awp_cond,Zge 30 3];simp[nums];by_cases h1:k <l.length
 ·have hx:l[k]?=some l[k]:=List.getElem?_eq_getElem h1;have hw:IntKind.i64.wrap ((k:Int)+1)=k+1:=wrap_i64 (by omega) (by omega);rw[if_pos (by omega),awp_skip];simp only[Zge 30 4,Zge 30 5];simp[hx];refine⟨_,_,(p104 l[k] (hi _ (List.getElem_mem h1)) []),?_⟩;have hf:=flat_encI_len (l.take k);have he:=encI_len l[k];have ht:(l.take k).length=k:=by simp;omega
  have hroom:roomy ((uvar l.length).length+((l.take k).flatMap encI).length+(encI l[k]).length) 1=true:=by simp[roomy,-List.length_flatMap];omega
  simp[hroom,h1,hw,-List.length_flatMap];rw[flat_take h1];simp
 ·have:k=l.length:=by omega
  subst this;rw[if_neg (by omega),awp_exit];simp[awp_ret,Zge 30 6,Zgr 30,encInts]
theorem b01_i64 (b:Bool):i64 (b01 b):=by cases b<;>(unfold i64 b01;simp)
theorem p325 (x:Ivl) (hx:x.ok):PSp Tryz.prog GLx 170 [x.V] [nums .u8 (encIvl x)]:=by
 refine psp_of_awp (Zkk 170) rfl ?_;have hp:=p107v [x.ln,x.ld,x.hn,x.hd,b01 x.lo,b01 x.ho,b01 x.li,b01 x.hi] (by
  intro n hn;simp at hn;rcases hn with rfl|rfl|rfl|rfl|rfl|rfl|rfl|rfl
  ·exact hx.1
  ·exact hx.2.1
  ·exact hx.2.2.1
  ·exact hx.2.2.2
  all_goals exact b01_i64 _) (by simp)
 have e:encInts [x.ln,x.ld,x.hn,x.hd,b01 x.lo,b01 x.ho,b01 x.li,b01 x.hi]=encIvl x:=rfl;rw[e]at hp;generalize encIvl x=bs at*;have ha:=p339 x.lo;have hb:=p339 x.ho;have hc:=p339 x.li;have hd:=p339 x.hi;obtain⟨ln,ld,hn,hd',lo,ho,li,hi⟩:=x;rw[Zga 170];simp only[awp_seq,awp_reg,Zge 170 0,entry];simp[Ivl.V,awp_regD,Zge 170 1];refine⟨_,_,⟨rfl,rfl⟩,_,ha,?_⟩;simp;refine⟨_,_,⟨rfl,rfl⟩,_,hb,?_⟩;simp;refine⟨_,_,⟨rfl,rfl⟩,_,hc,?_⟩;simp;refine⟨_,_,⟨rfl,rfl⟩,_,hd,?_⟩;simp;simp[nums]at hp;refine⟨_,_,⟨rfl,rfl⟩,_,hp,?_⟩;simp[awp_ret,Zgr 170,nums]
def Pr0:Prims:=λ_ _ _=>none
def par6:List (List Int):=[[],[0],[0],[1,2],[],[4]]
theorem p120a:∀ps∈par6,PSp Tryz.prog GLx 129 [.int .i64 6,nums .i64 ps] [.bool true]:=by
 intro ps hps;simp only[par6,List.mem_cons,List.not_mem_nil,or_false]at hps;rcases hps with rfl|rfl|rfl|rfl|rfl|rfl
 all_goals exact psp_of_ev (Pr:=Pr0) (fuel:=100) Tb_ok (λf args h x hx=>by cases hx) (by kernel_rfl)
theorem p121a:∀ps∈par6,PSp Tryz.prog GLx 130 [nums .i64 ps] [.bool true]:=by
 intro ps hps;simp only[par6,List.mem_cons,List.not_mem_nil,or_false]at hps;rcases hps with rfl|rfl|rfl|rfl|rfl|rfl
 all_goals exact psp_of_ev (Pr:=Pr0) (fuel:=100) Tb_ok (λf args h x hx=>by cases hx) (by kernel_rfl)
theorem p122a:∀ps∈par6,PSp Tryz.prog GLx 131 [nums .i64 ps] [nums .i64 ps]:=by
 intro ps hps;simp only[par6,List.mem_cons,List.not_mem_nil,or_false]at hps;rcases hps with rfl|rfl|rfl|rfl|rfl|rfl
 all_goals exact psp_of_ev (Pr:=Pr0) (fuel:=100) Tb_ok (λf args h x hx=>by cases hx) (by kernel_rfl)
abbrev bv (b:Bool):D:= .v (.bool b)
def parD:D:= .own 22 1 (par6.map (nums .i64))
def txR (bs:List Bool):Row:= .cells (parD::bs.map bv)
def rowsF (bs dn op:List Bool):List Row:=[txR bs,.cells [.ref 0 0],.cells (dn.map bv),.cells (op.map bv),.cells [.sref 2 6],.cells [.sref 3 6],.cells [.func 180 [.ref 4 0,.ref 5 0,.ref 1 0,.ref 6 0]]]
def inJ (i:Nat) (src:List Bool):Nat→List Bool→List Bool
 |0,bs=>bs
 |j+1,bs=>(inJ i src j bs).set (i*64+j) ((inJ i src j bs).getD (i*64+j) false||src.getD j false)
theorem inJ_len (i:Nat) (src:List Bool) (bs:List Bool):∀j,(inJ i src j bs).length=bs.length
 |0=>rfl
 |j+1=>by rw[inJ,List.length_set,inJ_len i src bs j]
def upP (i:Nat) (bs:List Bool) (p:Nat):List Bool:=inJ i ((bs.drop (p*64)).take 64) 64 bs
set_option maxRecDepth 100000 in
theorem l211 (i:Nat) (hi:i <6) (bs dn op src:List Bool) (hbs:bs.length=4096) (hs:src.length=64) (d41 d42 d43:D):
  awp Tryz.prog GLx (.loop (lG 180 1)) (λe s=>e= .exit 2∧find s.e 0= .v (.int .i64 i)∧find s.e 1= .ref 4 0∧find s.e 3= .ref 1 0∧find s.e 4= .ref 6 0∧find s.e 41=d41∧find s.e 42=d42∧find s.e 43=d43∧s.h=rowsF (inJ i src 64 bs) dn op)
   ⟨[(0,.v (.int .i64 i)),(1,.ref 4 0),(3,.ref 1 0),(4,.ref 6 0),(41,d41),(42,d42),(43,d43),(56,.agg (src.map bv)),(57,.v (.int .i64 0))],rowsF bs dn op⟩:=by
 refine awp_loop_nat0 64 (λj=>⟨[(0,.v (.int .i64 i)),(1,.ref 4 0),(3,.ref 1 0),(4,.ref 6 0),(41,d41),(42,d42),(43,d43),(56,.agg (src.map bv)),(57,.v (.int .i64 j))],rowsF (inJ i src j bs) dn op⟩) (by simp[inJ]) ?_;intro j hj;simp only[Zgl 180 1,awp_seq,awp_reg,awp_block,awp_cond,Zge 180 11];simp;by_cases hlt:j <64
 ·have hw:IntKind.i64.wrap ((j:Int)+1)=j+1:=wrap_i64 (by omega) (by omega);have hnext:inJ i src (j+1) bs=(inJ i src j bs).set (i*64+j) ((inJ i src j bs).getD (i*64+j) false||src.getD j false):=rfl
  have hbl:=inJ_len i src bs j;rw[hnext];generalize inJ i src j bs=B at*;obtain⟨b,hb⟩:∃b,B[i*64+j]?=some b:=⟨_,List.getElem?_eq_getElem (by omega)⟩;obtain⟨c,hc⟩:∃c,src[j]?=some c:=⟨_,List.getElem?_eq_getElem (by omega)⟩;have hbD:B.getD (i*64+j) false=b:=by rw[List.getD_eq_getElem?_getD,hb];rfl
  have hcD:src.getD j false=c:=by rw[List.getD_eq_getElem?_getD,hc];rfl
  rw[hbD,hcD];obtain⟨ds,hds⟩:∃ds,parD::B.map bv=ds:=⟨_,rfl⟩;have hlen:ds.length=4097:=by rw[←hds];simp;omega
  have hld:ds[1+i*64+j]?=some (bv b):=by rw[←hds,show 1+i*64+j=(i*64+j)+1 by omega];simp[hb]
  have hput:∀v,putL ds (1+i*64+j) [bv v]=parD::(B.set (i*64+j) v).map bv:=by
   intro v;rw[←hds,show 1+i*64+j=(i*64+j)+1 by omega,putL];simp only[List.take_succ_cons,List.length_singleton,List.drop_succ_cons,List.map_set,List.cons_append];rw[List.set_eq_take_append_cons_drop,if_pos (by simp;omega)];simp
  have hlt2:(i:Int) <64:=by omega
  have hj2:(j:Int) <64:=by omega
  have hle:1+i*64+j+1≤4097:=by omega
  rw[if_pos (by omega),awp_skip];simp only[Zge 180 12,rowsF,txR,hds];have hj63:j≤63:=by omega
  simp[hs,hc,hj63,awp_regD,Zge 180 13];simp[hlen,hld,hlt2,hj2,hlt,hle];cases b with
  |false=>
   simp[hput,Zge 180 14,hw]
  |true=>
   simp[hput,Zge 180 14,hw]
 ·have:j=64:=by omega
  subst this;rw[if_neg (by omega),awp_exit];simp
end Go.Va
