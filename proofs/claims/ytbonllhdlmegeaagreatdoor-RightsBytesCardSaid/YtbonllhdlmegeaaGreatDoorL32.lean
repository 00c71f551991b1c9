/- Laws, part 32. No condition. -/
import Derived.Test.YtbonllhdlmegeaaGreatDoorL10
import Derived.Test.YtbonllhdlmegeaaGreatDoorL11
set_option linter.all false
set_option maxRecDepth 100000
set_option maxHeartbeats 4000000
noncomputable section
namespace Go.Va
open Go.Proofs
theorem encF_eq (op n:Int) (ins:List Ivl) (kids:List F):encF (.mk op n ins kids)=encNode (.mk op n ins kids)++kids.flatMap encF:=by
 unfold encF;rw[F.nodes_eq,List.flatMap_cons,List.flatMap_assoc]
theorem flat_len_take {α:Type} (l:List α) (f:α→List Int) (k:Nat):((l.take k).flatMap f).length≤(l.flatMap f).length:=by
 have:=congrArg (λl=>(List.flatMap f l).length) (List.take_append_drop k l);simp only[List.flatMap_append,List.length_append]at this;omega
theorem flat_len_mem {α:Type} {l:List α} {f:α→List Int} {x:α} (h:x∈l):(f x).length≤(l.flatMap f).length:=by
 induction l with
 |nil=>cases h
 |cons y l ih=>
  rw[List.flatMap_cons,List.length_append];cases h with
  |head=>omega
  |tail _ h=>have:=ih h;omega
theorem l297a (op n:Int) (ins:List Ivl) (kids:List F) (hins:∀x∈ins,x.ok) (hil:ins.length≤2^40) (room:∀m:Nat,m≤2^46→roomy m 1=true) (pre:List Int) (hb:pre.length+(ins.flatMap encIvl).length≤2^46):
  awp Tryz.prog GLx (.loop (lG 120 0)) (λe s=>e= .exit 0∧s=⟨[(1,.ref 0 0),(3,.own 5 1 ((pre++ins.flatMap encIvl).map (.int .u8))),(4,.v (.int .i64 ins.length)),(23,.v (.bool false))],[.cells (F.mk op n ins kids).cells]⟩)
   ⟨[(1,.ref 0 0),(3,.own 5 1 (pre.map (.int .u8))),(4,.v (.int .i64 0))],[.cells (F.mk op n ins kids).cells]⟩:=by
 refine awp_loop_nat0 ins.length (λk=>⟨[(1,.ref 0 0),(3,.own 5 1 ((pre++(ins.take k).flatMap encIvl).map (.int .u8))),(4,.v (.int .i64 k))],[.cells (F.mk op n ins kids).cells]⟩) (by simp) ?_;intro k hk;simp only[Zgl 120 0,awp_seq,awp_reg,awp_block,awp_cond,Zge 120 4,F.cells,F.op,F.n,F.ins,F.kids];simp;by_cases hlt:k <ins.length
 ·obtain⟨x,hx⟩:∃x,ins[k]?=some x:=⟨_,List.getElem?_eq_getElem hlt⟩;have hxm:=List.mem_of_getElem? hx;have hxe:ins[k]=x:=(List.getElem?_eq_some_iff.1 hx).2;have hw:IntKind.i64.wrap ((k:Int)+1)=k+1:=wrap_i64 (by omega) (by omega);have p1:=(p325 x (hins x hxm)).fsp;have hle:=flat_len_take ins encIvl (k+1);rw[flat_take hlt,hxe,List.length_append]at hle;rw[if_pos (by omega),awp_skip];simp only[Zge 120 5,Zge 120 6];simp[Ivl.V,nums]at p1;simp[hx,Ivl.V];refine⟨_,_,p1 _,?_⟩;simp[hw,hlt,-List.length_flatMap,room _ (show pre.length+((ins.take k).flatMap encIvl).length+(encIvl x).length≤2^46 by omega)];rw[flat_take hlt,hxe];simp
 ·have:k=ins.length:=by omega
  subst this;rw[if_neg (by omega),awp_exit];simp
theorem l297b (op n:Int) (ins:List Ivl) (kids:List F) (hp:∀x∈kids,∀h,FSp Tryz.prog GLx 120 [.v x.V] h [.v (nums .u8 (encF x))] h) (hkl:kids.length≤2^40) (room:∀m:Nat,m≤2^46→roomy m 1=true) (pre:List Int) (hb:pre.length+(kids.flatMap encF).length≤2^46):
  awp Tryz.prog GLx (.loop (lG 120 1)) (λe s=>e= .exit 2∧s=⟨[(1,.ref 0 0),(3,.own 5 1 ((pre++kids.flatMap encF).map (.int .u8))),(5,.v (.int .i64 kids.length)),(44,.v (.bool false))],[.cells (F.mk op n ins kids).cells]⟩)
   ⟨[(1,.ref 0 0),(3,.own 5 1 (pre.map (.int .u8))),(5,.v (.int .i64 0))],[.cells (F.mk op n ins kids).cells]⟩:=by
 refine awp_loop_nat0 kids.length (λk=>⟨[(1,.ref 0 0),(3,.own 5 1 ((pre++(kids.take k).flatMap encF).map (.int .u8))),(5,.v (.int .i64 k))],[.cells (F.mk op n ins kids).cells]⟩) (by simp) ?_;intro k hk;simp only[Zgl 120 1,awp_seq,awp_reg,awp_block,awp_cond,Zge 120 9,F.cells,F.op,F.n,F.ins,F.kids];simp;by_cases hlt:k <kids.length
 ·obtain⟨x,hx⟩:∃x,kids[k]?=some x:=⟨_,List.getElem?_eq_getElem hlt⟩;have hxm:=List.mem_of_getElem? hx;have hxe:kids[k]=x:=(List.getElem?_eq_some_iff.1 hx).2;have hw:IntKind.i64.wrap ((k:Int)+1)=k+1:=wrap_i64 (by omega) (by omega);have p1:=hp x hxm;have hle:=flat_len_take kids encF (k+1);rw[flat_take hlt,hxe,List.length_append]at hle;have e:(kids.take (k+1)).flatMap encF=(kids.take k).flatMap encF++encF x:=by rw[flat_take hlt,hxe]
  generalize encF x=bs at*;obtain⟨xo,xn,xi,xk⟩:=x;rw[if_pos (by omega),awp_skip];simp only[Zge 120 10,Zge 120 11];simp[F.V_eq,nums]at p1;simp[hx,F.V_eq];refine⟨_,_,p1 _,?_⟩;simp[hw,hlt,-List.length_flatMap,room _ (show pre.length+((kids.take k).flatMap encF).length+bs.length≤2^46 by omega),e]
 ·have:k=kids.length:=by omega
  subst this;rw[if_neg (by omega),awp_exit];simp
theorem p297:∀f:F,f.ok→(encF f).length≤2^45→PSp Tryz.prog GLx 120 [f.V] [nums .u8 (encF f)]:=by
 refine F.ind λop n ins kids ih hok hb=>?_;refine psp_of_awp (Zkk 120) rfl ?_;have h1:=F.ok1_self hok;have hsz:=hok.2;rw[F.size_eq]at hsz;have hkl:=F.kids_len kids;rw[encF_eq]at hb ⊢;simp only[encNode,F.op,F.n,F.ins,F.kids,F.ok1]at*;have il:i64 (ins.length:Int):=by unfold i64;omega
 have kl:i64 (kids.length:Int):=by unfold i64;omega
 have q1:=encI_len op;have q2:=encI_len n;have q3:=encI_len ins.length;have q4:=encI_len kids.length;simp only[List.length_append]at hb;have room:∀m:Nat,m≤2^46→roomy m 1=true:=by intro m hm;simp[roomy];omega
 simp only[Zga 120,awp_seq,awp_reg,awp_regA,awp_block,Zge 120 0,Zge 120 1,entry];simp[F.V_eq];refine⟨_,_,p104 op h1.1 _,⟨[],rfl⟩,_,_,p104 n h1.2.1 _,⟨[],by simp⟩,?_⟩;simp[room _ (show (encI op).length+(encI n).length≤2^46 by omega)];refine⟨_,.inl rfl,?_⟩;simp[Zge 120 2];refine⟨_,_,p104 ins.length il _,?_⟩;simp[room _ (show (encI op).length+(encI n).length+(encI ins.length).length≤2^46 by omega),Zge 120 3];have hl:=l297a op n ins kids h1.2.2.1 h1.2.2.2 room (encI op++(encI n++encI ins.length)) (by simp only[List.length_append];omega);simp[F.cells,F.op,F.n,F.ins,F.kids]at hl;refine awp_to hl ?_;simp[Zge 120 7];refine⟨_,_,p104 kids.length kl _,?_⟩;simp[-List.length_flatMap,room _ (show (encI op).length+((encI n).length+((encI ins.length).length+(ins.flatMap encIvl).length))+(encI kids.length).length≤2^46 by omega),Zge 120 8];have hl2:=l297b op n ins kids (λx hx h=>(ih x hx (F.ok_kid hok hx) (by have:=flat_len_mem (f:=encF) hx;omega)).fsp h) (by omega) room (encI op++(encI n++(encI ins.length++(ins.flatMap encIvl++encI kids.length)))) (by simp only[List.length_append];omega);simp[F.cells,F.op,F.n,F.ins,F.kids]at hl2;refine awp_to hl2 ?_;simp[Zge 120 12,awp_ret,Zgr 120,nums]
def lastOf (l:List Int) (k:Nat):Int:=match k with|0=> -1|j+1=>l.getD j 0
def badRef (l:List Int) (i:Int) (k:Nat):Bool:=decide (l.getD k 0≤lastOf l k∨i≤l.getD k 0)
def refsOK (l:List Int) (i:Int):Bool:= !(List.range l.length).any (badRef l i)
theorem p241 (l:List Int) (i:Int) (hn:l.length≤2^40):PSp Tryz.prog GLx 103 [nums .i64 l,.int .i64 i] [.bool (refsOK l i)]:=by
 refine psp_of_awp (Zkk 103) rfl ?_;simp only[Zga 103,awp_seq,awp_reg,awp_block,Zge 103 0,Zge 103 1,Zge 103 2,entry];simp[nums];refine awp_loop_inv l.length (λk=>⟨[(1,.v (.int .i64 i)),(5,.v (.int .i64 (lastOf l k))),(8,.v (nums .i64 l)),(9,.v (.int .i64 l.length)),(10,.v (.int .i64 k))],[]⟩) (λk=>∀j <k,badRef l i j=false) (by simp[nums,lastOf]) (by omega) ?_;intro k hk hI;simp only[Zgl 103 0,awp_seq,awp_reg,awp_block,awp_cond,Zge 103 3];simp[nums];by_cases h1:k <l.length
 ·obtain⟨x,hx⟩:∃x,l[k]?=some x:=⟨_,List.getElem?_eq_getElem h1⟩;have hw:IntKind.i64.wrap ((k:Int)+1)=k+1:=wrap_i64 (by omega) (by omega);have hb:badRef l i k=decide (x≤lastOf l k∨i≤x):=by unfold badRef;simp[List.getD,hx]
  have hlast:lastOf l (k+1)=x:=by simp[lastOf,List.getD,hx]
  rw[if_pos (by omega),awp_skip];simp only[Zge 103 4,Zge 103 5];simp[hx];by_cases b1:x≤lastOf l k
  ·have hbt:badRef l i k=true:=by rw[hb];simp[b1]
   simp[b1,awp_ret,Zge 103 6,Zgr 103];unfold refsOK;rw[any_bad h1 hbt];rfl
  ·by_cases b2:i≤x
   ·have hbt:badRef l i k=true:=by rw[hb];simp[b2]
    simp[b1,b2,awp_ret,Zge 103 6,Zgr 103];unfold refsOK;rw[any_bad h1 hbt];rfl
   ·have hbf:badRef l i k=false:=by rw[hb];simp;omega
    simp[b1,b2,awp_skip,Zge 103 7,Zge 103 8,hw,h1,hlast];intro j hj;rcases Nat.lt_or_ge j k with h|h
    ·exact hI j h
    ·have:j=k:=by omega
     subst this;exact hbf
 ·have hk2:k=l.length:=by omega
  subst hk2;rw[if_neg (by omega),awp_exit];simp[awp_ret,Zge 103 9,Zgr 103];unfold refsOK;rw[any_good hI];rfl
theorem p213 (l:List Int) (i:Int) (hn:l.length≤2^40):PSp Tryz.prog GLx 117 [nums .i64 l,.int .i64 i] [.bool (refsOK l i)]:=by
 refine psp_of_awp (Zkk 117) rfl ?_;simp only[Zga 117,awp_seq,awp_reg,awp_block,Zge 117 0,Zge 117 1,entry];simp[nums];refine awp_loop_inv l.length (λk=>⟨[(0,.v (nums .i64 l)),(1,.v (.int .i64 i)),(5,.v (.int .i64 k))],[]⟩) (λk=>∀j <k,badRef l i j=false) (by simp[nums]) (by omega) ?_;intro k hk hI;have hge: -1≤lastOf l k:=by
  have:∀k,(∀j <k,badRef l i j=false)→ -1≤lastOf l k:=by
   intro k;induction k with
   |zero=>intro _;simp[lastOf]
   |succ j ih=>
    intro h;have h1:=ih λj' h'=>h j' (by omega);have h2:=h j (by omega);unfold badRef at h2;simp at h2;have e:lastOf l (j+1)=l.getD j 0:=rfl;rw[e];simp only[List.getD_eq_getElem?_getD]at *;omega
  exact this k hI
 simp only[Zgl 117 0,awp_seq,awp_reg,awp_regD,awp_block,awp_cond,Zge 117 2];simp[nums];by_cases h1:k <l.length
 ·obtain⟨x,hx⟩:∃x,l[k]?=some x:=⟨_,List.getElem?_eq_getElem h1⟩;have hw:IntKind.i64.wrap ((k:Int)+1)=k+1:=wrap_i64 (by omega) (by omega);have hb:badRef l i k=decide (x≤lastOf l k∨i≤x):=by unfold badRef;simp[List.getD,hx]
  have hbad:badRef l i k=true→refsOK l i=false:=by intro h;unfold refsOK;rw[any_bad h1 h];rfl
  have hgood:badRef l i k=false→∀j <k+1,badRef l i j=false:=by
   intro hbf j hj;rcases Nat.lt_or_ge j k with h|h
   ·exact hI j h
   ·have:j=k:=by omega
    subst this;exact hbf
  rw[if_pos (by omega),awp_skip];simp only[Zge 117 4];by_cases b1:x <0
  ·have hbt:badRef l i k=true:=by rw[hb];simp;omega
   simp[hx,b1,awp_ret,Zge 117 5,Zgr 117,hbad hbt]
  ·by_cases b2:i≤x
   ·have hbt:badRef l i k=true:=by rw[hb];simp[b2]
    simp[hx,b1,b2,awp_ret,Zge 117 5,Zgr 117,hbad hbt]
   ·cases k with
    |zero=>
     have hbf:badRef l i 0=false:=by
      have e:lastOf l 0= -1:=rfl;rw[hb,e];simp;omega
     have hx2:l[0]=x:=(List.getElem?_eq_some_iff.1 hx).2;simp at hw;simp[hx2,b1,b2,awp_skip,Zge 117 3,hw,h1];exact hbf
    |succ j=>
     obtain⟨y,hy⟩:∃y,l[j]?=some y:=⟨_,List.getElem?_eq_getElem (by omega)⟩;have hw2:IntKind.i64.wrap (j:Int)=j:=wrap_i64 (by omega) (by omega);have hl:lastOf l (j+1)=y:=by simp[lastOf,List.getD,hy]
     have hx2:l[j+1]=x:=(List.getElem?_eq_some_iff.1 hx).2;have h9:(0:Int) <(j:Int)+1:=by omega
     have h10:(0:Int)≤(j:Int)+1:=by omega
     by_cases b3:x≤y
     ·have hbt:badRef l i (j+1)=true:=by rw[hb,hl];simp[b3]
      simp[b1,b2,h9,h10,hw2,hx,hy,b3,awp_ret,Zge 117 5,Zgr 117,hbad hbt]
     ·have hbf:badRef l i (j+1)=false:=by rw[hb,hl];simp;omega
      simp at hw;simp[b1,b2,h9,h10,hw2,hx2,hy,b3,awp_skip,Zge 117 3,hw,h1];exact hgood hbf
 ·have hk2:k=l.length:=by omega
  subst hk2;rw[if_neg (by omega),awp_exit];simp[awp_ret,Zge 117 6,Zgr 117];unfold refsOK;rw[any_good hI];rfl
structure Clm where
 refs:List Int
 body:F
def Clm.V (c:Clm):V:= .agg [nums .i64 c.refs,.int .i64 c.body.op,.int .i64 c.body.n,.list (c.body.ins.map Ivl.V),.list (c.body.kids.map F.V)]
def Clm.ok (c:Clm):Prop:=(∀n∈c.refs,i64 n)∧c.refs.length≤2^40∧c.body.ok
theorem F.V_flds (f:F):f.V= .agg [.int .i64 f.op,.int .i64 f.n,.list (f.ins.map Ivl.V),.list (f.kids.map F.V)]:=by cases f;rw[F.V_eq];rfl
def firstE (e:Nat→Int):Nat→Nat→Int
 |_,0=>0
 |k,m+1=>if e k≠0 then e k else firstE e (k+1) m
theorem firstE_zero {e:Nat→Int}:∀(m k:Nat),(∀j,k≤j→j <k+m→e j=0)→firstE e k m=0
 |0,_,_=>rfl
 |m+1,k,h=>by
  simp only[firstE,h k (by omega) (by omega)];simpa using firstE_zero m (k+1) λj h1 h2=>h j (by omega) (by omega)
theorem firstE_at {e:Nat→Int}:∀(m k i:Nat),k≤i→i <k+m→(∀j,k≤j→j <i→e j=0)→e i≠0→firstE e k m=e i
 |0,k,i,h1,h2,_,_=>by omega
 |m+1,k,i,h1,h2,h,hi=>by
  by_cases hk:k=i
  ·subst hk;simp only[firstE,if_pos hi]
  ·simp only[firstE,h k (by omega) (by omega)];simpa using firstE_at m (k+1) i (by omega) (by omega) (λj h3 h4=>h j (by omega) h4) hi
def clmE (c:Clm) (k:Nat):Int:=if c.refs.length>8 then 4 else if refsOK c.refs k then formE c.body else 1
def clmAt (l:List Clm) (k:Nat):Int:=match l[k]? with|none=>0|some c=>clmE c k
def clmsE (l:List Clm):Int:=if l.length>32 then 4 else firstE (clmAt l) 0 l.length
theorem p138 (l:List Clm) (hl:∀c∈l,c.ok) (hn:l.length≤2^40):PSp Tryz.prog GLx 60 [.list (l.map Clm.V)] [.int .i64 (clmsE l)]:=by
 refine psp_of_awp (Zkk 60) rfl ?_;obtain⟨R,hR⟩:∃R,clmsE l=R:=⟨_,rfl⟩;rw[hR];unfold clmsE at hR;simp only[Zga 60,awp_seq,awp_reg,awp_block,awp_cond,Zge 60 0,Zge 60 1,entry];simp;by_cases h32:32 <l.length
 ·have h32':32 <(l.length:Int):=by omega
  simp[h32]at hR;simp[h32',awp_ret,Zge 60 2,Zgr 60,hR]
 ·have h32':¬32 <(l.length:Int):=by omega
  simp only[gt_iff_lt,h32,if_false]at hR;simp[h32',awp_skip,Zge 60 3];refine awp_loop_I l.length (λk s=>s.e=[(9,.v (.list (l.map Clm.V))),(10,.v (.int .i64 l.length)),(11,.v (.int .i64 k))]∧∀j <k,clmAt l j=0) ⟨rfl,by omega⟩ ?_;rintro k ⟨se,sh⟩ hk ⟨he,hI⟩;simp only at he;subst he;simp only[Zgl 60 0,awp_seq,awp_reg,awp_block,awp_cond,Zge 60 4];simp;by_cases h1:k <l.length
  ·obtain⟨x,hx⟩:∃x,l[k]?=some x:=⟨_,List.getElem?_eq_getElem h1⟩;obtain⟨o1,o2,o3⟩:=hl x (List.mem_of_getElem? hx);have hw:IntKind.i64.wrap ((k:Int)+1)=k+1:=wrap_i64 (by omega) (by omega);have hat:clmAt l k=clmE x k:=by unfold clmAt;rw[hx]
   have hbad:clmE x k≠0→R=clmE x k:=λh=>by rw[←hR,firstE_at l.length 0 k (by omega) (by omega) (λj _ h3=>hI j h3) (by rw[hat];exact h),hat]
   have p1:=(p241 x.refs k o2).fsp;have p2:=(p66 x.body o3).fsp;rw[F.V_flds]at p2;unfold clmE at hbad hat;rw[if_pos (by omega),awp_skip];simp only[Zge 60 5,Zge 60 6];simp[hx,Clm.V,nums,putL];simp[nums]at p1 p2;by_cases b1:8 <x.refs.length
   ·have b1':8 <(x.refs.length:Int):=by omega
    simp[b1]at hbad;simp[b1',awp_ret,Zge 60 7,Zgr 60,hbad]
   ·have b1':¬8 <(x.refs.length:Int):=by omega
    simp only[gt_iff_lt,b1,if_false]at hbad hat;simp[b1',Zge 60 8];refine⟨_,_,p1 _,?_⟩;cases hr:refsOK x.refs k with
    |false=>
     simp[hr]at hbad;simp[awp_ret,Zge 60 9,Zgr 60,hbad]
    |true=>
     simp[hr]at hbad hat;simp[awp_skip,Zge 60 10];refine⟨_,_,p2 _,?_⟩;by_cases b2:formE x.body=0
     ·rw[b2]at hat;simp[b2,Zge 60 11,Zge 60 13,hw,h1];intro j hj;rcases Nat.lt_or_ge j k with h|h
      ·exact hI j h
      ·have:j=k:=by omega
       subst this;exact hat
     ·simp[b2,Zge 60 11,awp_ret,Zge 60 12,Zgr 60,hbad b2]
  ·have hk2:k=l.length:=by omega
   subst hk2;rw[if_neg (by omega),awp_exit];rw[firstE_zero _ _ (λj _ h3=>hI j (by omega))]at hR;simp[awp_ret,Zge 60 14,Zgr 60,hR]
theorem p126 (l:List Clm) (hl:∀c∈l,c.ok) (hn:l.length≤2^40):PSp Tryz.prog GLx 81 [.list (l.map Clm.V)] [.int .i64 (clmsE l)]:=by
 refine psp_of_awp (Zkk 81) rfl ?_;obtain⟨R,hR⟩:∃R,clmsE l=R:=⟨_,rfl⟩;rw[hR];unfold clmsE at hR;simp only[Zga 81,awp_seq,awp_reg,awp_block,awp_cond,Zge 81 0,Zge 81 1,entry];simp;by_cases h32:32 <l.length
 ·have h32':32 <(l.length:Int):=by omega
  simp[h32]at hR;simp[h32',awp_ret,Zge 81 2,Zgr 81,hR]
 ·have h32':¬32 <(l.length:Int):=by omega
  simp only[gt_iff_lt,h32,if_false]at hR;simp[h32',awp_skip,Zge 81 3];refine awp_loop_inv l.length (λk=>⟨[(0,.v (.list (l.map Clm.V))),(3,.v (.int .i64 k))],[]⟩) (λk=>∀j <k,clmAt l j=0) rfl (by omega) ?_;intro k hk hI;simp only[Zgl 81 0,awp_seq,awp_reg,awp_block,awp_cond,Zge 81 4];simp;by_cases h1:k <l.length
  ·obtain⟨x,hx⟩:∃x,l[k]?=some x:=⟨_,List.getElem?_eq_getElem h1⟩;obtain⟨o1,o2,o3⟩:=hl x (List.mem_of_getElem? hx);have hw:IntKind.i64.wrap ((k:Int)+1)=k+1:=wrap_i64 (by omega) (by omega);have hat:clmAt l k=clmE x k:=by unfold clmAt;rw[hx]
   have hbad:clmE x k≠0→R=clmE x k:=λh=>by rw[←hR,firstE_at l.length 0 k (by omega) (by omega) (λj _ h3=>hI j h3) (by rw[hat];exact h),hat]
   have p1:=(p213 x.refs k o2).fsp;have p2:=(p214 x.body o3).fsp;rw[F.V_flds]at p2;unfold clmE at hbad hat;rw[if_pos (by omega),awp_skip];simp only[Zge 81 6];simp[hx,Clm.V,nums];simp[nums]at p1 p2;by_cases b1:8 <x.refs.length
   ·have b1':8 <(x.refs.length:Int):=by omega
    simp[b1]at hbad;simp[b1',awp_ret,Zge 81 7,Zgr 81,hbad]
   ·have b1':¬8 <(x.refs.length:Int):=by omega
    simp only[gt_iff_lt,b1,if_false]at hbad hat;simp[b1',hx,Clm.V,nums,awp_skip,Zge 81 8];refine⟨_,_,p1 _,?_⟩;cases hr:refsOK x.refs k with
    |false=>
     simp[hr]at hbad;simp[awp_ret,Zge 81 9,Zgr 81,hbad]
    |true=>
     simp[hr]at hbad hat;simp[hx,Clm.V,nums,Zge 81 10];refine⟨_,_,p2 _,?_⟩;by_cases b2:formE x.body=0
     ·rw[b2]at hat;simp[b2,Zge 81 11,Zge 81 5,hw,h1];intro j hj;rcases Nat.lt_or_ge j k with h|h
      ·exact hI j h
      ·have:j=k:=by omega
       subst this;exact hat
     ·simp[b2,Zge 81 11,awp_ret,Zge 81 12,Zgr 81,hbad b2]
  ·have hk2:k=l.length:=by omega
   subst hk2;rw[if_neg (by omega),awp_exit];rw[firstE_zero _ _ (λj _ h3=>hI j (by omega))]at hR;simp[awp_ret,Zge 81 13,Zgr 81,hR]
def encClm (c:Clm):List Int:=encInts c.refs++encRaw (encF c.body)
def encClms (l:List Clm):List Int:=encI l.length++l.flatMap encClm
theorem p235 (l:List Clm) (hl:∀c∈l,c.ok) (hn:l.length≤2^40) (hb:(encClms l).length≤2^44):PSp Tryz.prog GLx 83 [.list (l.map Clm.V)] [nums .u8 (encClms l)]:=by
 refine psp_of_awp (Zkk 83) rfl ?_;have il:i64 (l.length:Int):=by unfold i64;omega
 have room:∀m:Nat,m≤2^46→roomy m 1=true:=by intro m hm;simp[roomy];omega
 unfold encClms at hb ⊢;rw[List.length_append]at hb;simp only[Zga 83,awp_seq,awp_reg,awp_block,Zge 83 0,Zge 83 1,Zge 83 2,entry];simp;refine⟨_,_,p104 l.length il _,?_⟩;simp;refine awp_loop_nat0 l.length (λk=>⟨[(0,.v (.list (l.map Clm.V))),(3,.own 5 1 ((encI l.length++(l.take k).flatMap encClm).map (.int .u8))),(4,.v (.int .i64 k))],[]⟩) (by simp) ?_;intro k hk;simp only[Zgl 83 0,awp_seq,awp_reg,awp_block,awp_cond,Zge 83 3];simp;by_cases hlt:k <l.length
 ·obtain⟨x,hx⟩:∃x,l[k]?=some x:=⟨_,List.getElem?_eq_getElem hlt⟩;have hxm:=List.mem_of_getElem? hx;have hxe:l[k]=x:=(List.getElem?_eq_some_iff.1 hx).2;obtain⟨o1,o2,o3⟩:=hl x hxm;have hw:IntKind.i64.wrap ((k:Int)+1)=k+1:=wrap_i64 (by omega) (by omega);have hle:=flat_len_take l encClm (k+1);rw[flat_take hlt,hxe,List.length_append]at hle;have e:(l.take (k+1)).flatMap encClm=(l.take k).flatMap encClm++encClm x:=by rw[flat_take hlt,hxe]
  have ec:(encClm x).length=(encInts x.refs).length+(encRaw (encF x.body)).length:=by simp[encClm]
  have er:(encRaw (encF x.body)).length=(uvar (encF x.body).length).length+(encF x.body).length:=by simp[encRaw]
  have p1:=p107 x.refs o1 o2;have p2:=(p297 x.body o3 (by omega)).fsp;have p3:=p105 (encF x.body) (by omega);rw[F.V_flds]at p2;have e2:encClm x=encInts x.refs++encRaw (encF x.body):=rfl;generalize encRaw (encF x.body)=B at*;generalize encInts x.refs=A at*;generalize encF x.body=C at*;rw[if_pos (by omega),awp_skip];simp only[Zge 83 5,Zge 83 6];simp[nums]at p1 p2 p3;simp[hx,Clm.V,nums];refine⟨_,_,p1 _,?_⟩;simp[-List.length_flatMap,hx,Clm.V,room _ (show (encI l.length).length+((l.take k).flatMap encClm).length+A.length≤2^46 by omega)];refine⟨_,_,p2 _,?_⟩;simp[-List.length_flatMap];refine⟨_,_,p3 _,?_⟩;simp[-List.length_flatMap,hw,hlt,Zge 83 4,room _ (show (encI l.length).length+(((l.take k).flatMap encClm).length+A.length)+B.length≤2^46 by omega),e,e2]
 ·have:k=l.length:=by omega
  subst this;rw[if_neg (by omega),awp_exit];simp[awp_ret,Zge 83 7,Zgr 83,nums]
theorem p134 (l:List Clm) (hl:∀c∈l,c.ok) (hn:l.length≤2^40) (hb:(encClms l).length≤2^44):PSp Tryz.prog GLx 27 [.list (l.map Clm.V)] [nums .u8 (if clmsE l=0 then encClms l else []),.int .i64 (clmsE l)]:=by
 refine psp_of_awp (Zkk 27) rfl ?_;have p1:=(p126 l hl hn).fsp;have p2:=(p235 l hl hn hb).fsp;generalize clmsE l=e at*;simp[nums]at p1 p2;simp only[Zga 27,awp_seq,awp_reg,awp_cond,Zge 27 0,Zge 27 1,Zge 27 2,entry];simp;refine⟨_,_,p1 _,?_⟩;by_cases h:e=0
 ·subst h;simp[awp_skip,Zge 27 4];refine⟨_,_,p2 _,?_⟩;simp[awp_ret,Zgr 27,nums]
 ·simp[h,awp_ret,Zge 27 3,Zgr 27,nums]
structure Dat where
 cl:Int
 ix:Int
 day:Int
 file:Int
structure Own where
 party:Int
 num:Int
 den:Int
structure Lic where
 fr:Int
 to:Int
 fst:Int
 lst:Int
structure Rgt where
 file:Int
 state:Int
 force:Int
 claims:List Clm
 dates:List Dat
 bad:List Int
 owners:List Own
 lics:List Lic
def Dat.V (d:Dat):V:= .agg [.int .i64 d.cl,.int .i64 d.ix,.int .i64 d.day,.int .i64 d.file]
def Own.V (o:Own):V:= .agg [.int .i64 o.party,.int .i64 o.num,.int .i64 o.den]
def Lic.V (h:Lic):V:= .agg [.int .i64 h.fr,.int .i64 h.to,.int .i64 h.fst,.int .i64 h.lst]
def Rgt.cs (r:Rgt):List V:=[.int .i64 r.file,.int .i64 r.state,.int .i64 r.force,.list (r.claims.map Clm.V),.list (r.dates.map Dat.V),nums .i64 r.bad,.list (r.owners.map Own.V),.list (r.lics.map Lic.V)]
def Rgt.V (r:Rgt):V:= .agg r.cs
def Dat.ok (d:Dat):Prop:=i64 d.cl∧i64 d.ix∧i64 d.day∧i64 d.file
def Own.ok (o:Own):Prop:=i64 o.party∧i64 o.num∧i64 o.den
def Lic.ok (h:Lic):Prop:=i64 h.fr∧i64 h.to∧i64 h.fst∧i64 h.lst
structure Rgt.ok (r:Rgt):Prop where
 file:i64 r.file
 state:i64 r.state
 force:i64 r.force
 claims:∀c∈r.claims,c.ok
 dates:∀d∈r.dates,d.ok
 bad:∀n∈r.bad,i64 n
 owners:∀o∈r.owners,o.ok
 lics:∀h∈r.lics,h.ok
 lc:r.claims.length≤2^30
 ld:r.dates.length≤2^30
 lb:r.bad.length≤2^30
 lo:r.owners.length≤2^30
 ll:r.lics.length≤2^30
 enc:(encClms r.claims).length≤2^39
def inI (n lo hi:Int):Bool:=decide (lo≤n∧n≤hi)
def rising {α:Type} (f:α→α→Bool):List α→Bool
 |x::y::l=>f x y&&rising f (y::l)
 |_=>true
def datOK (n:Nat) (d:Dat):Bool:=inI d.cl 0 (n-1)&&inI d.ix 0 63&&inI d.day 0 131072&&inI d.file 0 4095
def datLt (a b:Dat):Bool:=decide (a.cl <b.cl∨a.cl=b.cl∧a.ix <b.ix)
def ownOK (o:Own):Bool:=inI o.party 1 4095&&okR o.num o.den&&decide (0 <o.num∧o.num≤o.den)
def licOK (h:Lic):Bool:=inI h.fr 1 4095&&inI h.to 1 4095&&inI h.fst 0 h.lst&&decide (h.lst≤131072)
def formedR (r:Rgt):Bool:=
 inI r.file 0 4095&&inI r.state 0 4&&inI r.force 0 4&&clmsE r.claims==0&&decide (r.dates.length≤4096)&&decide (r.lics.length≤4096)&&
 (r.dates.all (datOK r.claims.length)&&rising datLt r.dates)&&(r.bad.all (λi=>inI i 0 (r.claims.length-1))&&rising (λa b=>decide (a <b)) r.bad)&&
 (r.owners.all ownOK&&rising (λa b=>decide (a.party <b.party)) r.owners)&&r.lics.all licOK
def encDat (d:Dat):List Int:=encI d.cl++encI d.ix++encI d.day++encI d.file
def encOwn (o:Own):List Int:=encI o.party++encI o.num++encI o.den
def encLic (h:Lic):List Int:=encI h.fr++encI h.to++encI h.fst++encI h.lst
def encR (r:Rgt):List Int:=
 encI r.file++encI r.state++encI r.force++encRaw (encClms r.claims)++encI r.dates.length++r.dates.flatMap encDat++encInts r.bad++
 encI r.owners.length++r.owners.flatMap encOwn++encI r.lics.length++r.lics.flatMap encLic
abbrev RS.B (s:RS):Prop:=∀x∈s.1,0≤x∧x <256
theorem RS.B.suf {s s':RS} (h:s.B) (hs:s'.1 <:+ s.1):s'.B:=λx hx=>h x (hs.subset hx)
theorem rInt_suf (s:RS):(rInt s).2.1 <:+ s.1:=rUint_suf s
theorem rMany_suf:∀(n:Nat) (s:RS),(rMany n s).2.1 <:+ s.1
 |0,s=>List.suffix_refl _
 |n+1,s=>by
  rw[rMany];split
  ·exact List.suffix_refl _
  ·exact(rMany_suf n _).trans (rInt_suf s)
theorem rRaw_suf (s:RS):(rRaw s).2.1 <:+ s.1:=by
 unfold rRaw;split
 ·exact rUint_suf s
 ·split
  ·exact rUint_suf s
  ·exact(List.drop_suffix _ _).trans (rUint_suf s)
theorem rRaw_B {s:RS} (h:s.B):∀x∈(rRaw s).1,0≤x∧x <256:=by
 unfold rRaw;split
 ·simp
 ·split
  ·simp
  ·exact λx hx=>h x ((rUint_suf s).subset (List.mem_of_mem_take hx))
theorem rRaw_len (s:RS):(rRaw s).1.length≤s.1.length:=by
 have:=(rUint_suf s).length_le;unfold rRaw;split
 ·simp
 ·split
  ·simp
  ·simp only[List.length_take];omega
theorem rInts_suf (s:RS):(rInts s).2.1 <:+ s.1:=by
 unfold rInts;split
 ·exact rUint_suf s
 ·split
  ·exact rUint_suf s
  ·split<;>exact(rMany_suf _ _).trans (rUint_suf s)
theorem rMany_ok:∀(n:Nat) (s:RS),s.B→(rMany n s).1.length≤n∧∀x∈(rMany n s).1,i64 x
 |0,s,_=>⟨Nat.le_refl _,λx hx=>by cases hx⟩
 |n+1,s,h=>by
  rw[rMany];split
  ·exact⟨Nat.zero_le _,λx hx=>by cases hx⟩
  ·obtain⟨h1,h2⟩:=rMany_ok n (rInt s).2 (h.suf (rInt_suf s));refine⟨by simp only[List.length_cons];omega,λx hx=>?_⟩;rcases List.mem_cons.1 hx with rfl|hx
   ·exact rInt_i64 s h
   ·exact h2 x hx
theorem rInts_ok (s:RS) (h:s.B):(rInts s).1.length≤s.1.length∧∀x∈(rInts s).1,i64 x:=by
 have h1:=(rUint_suf s).length_le;have h2:=rMany_ok (rUint s).1.toNat (rUint s).2 (h.suf (rUint_suf s));unfold rInts;split
 ·exact⟨Nat.zero_le _,λx hx=>by cases hx⟩
 ·split
  ·exact⟨Nat.zero_le _,λx hx=>by cases hx⟩
  ·split
   ·exact⟨Nat.zero_le _,λx hx=>by cases hx⟩
   ·exact⟨by omega,h2.2⟩
theorem rUF_of:∀(k:Nat) (acc m:Int) (rest:List Int),k≤9→0≤m→m <128^(k+1)→(k <9→0 <m)→0≤acc→acc+m*128^(9-k) <18446744073709551616→
  rUF k acc (uvarF k m++rest)=(acc+m*128^(9-k),rest,0)
 |0,acc,m,rest,_,h0,h1,h2,ha,hs=>by
  have e9:(128:Int)^9=9223372036854775808:=by decide
  have:=h2 (by omega);rw[Nat.sub_zero,e9]at hs;obtain rfl:m=1:=by omega
  rfl
 |k+1,acc,m,rest,hk,h0,h1,h2,ha,hs=>by
  have hi2:9-(k+1)=8-k:=by omega
  rw[hi2]at hs ⊢;by_cases hl:m <128
  ·rw[show uvarF (k+1) m=[m] by simp[uvarF,hl],List.singleton_append,rUF,if_neg (by
    intro hh;have:=h2 (by omega);omega),if_pos hl]
  ·rw[show uvarF (k+1) m=(128+m%128)::uvarF k (m/128) by simp[uvarF,hl],List.cons_append,rUF,if_neg (by omega),if_neg (by omega)];have hc:(128+m%128)%128=m%128:=by omega
   have hp:(0:Int) <128^(8-k):=Int.pow_pos (by decide);have hp2:(128:Int)^(9-k)=128^(8-k)*128:=by rw[show 9-k=(8-k)+1 by omega];exact Int.pow_succ ..
   have hsum:acc+(m%128)*128^(8-k)+(m/128)*128^(9-k)=acc+m*128^(8-k):=by
    have:m*128^(8-k)=(m%128+128*(m/128))*128^(8-k):=by rw[Int.emod_add_mul_ediv]
    rw[this,hp2,Int.add_mul];have:m/128*(128^(8-k)*128)=128*(m/128)*128^(8-k):=by
     rw[Int.mul_comm (128^(8-k)) 128,←Int.mul_assoc,Int.mul_comm (m/128) 128]
    omega
   rw[hc,rUF_of k _ (m/128) rest (by omega) (by omega) (Int.ediv_lt_of_lt_mul (by decide) (by rw[←Int.pow_succ];exact h1)) (λ_=>by omega)
    (Int.add_nonneg ha (Int.mul_nonneg (by omega) (Int.le_of_lt hp))) (by rw[hsum];exact hs),hsum]
theorem rUint_of {n:Int} (hn:u64 n) (rest:List Int):rUint (uvar n++rest,0)=(n,(rest,0)):=by
 unfold u64 at hn;have e10:(128:Int)^(9+1)=1180591620717411303424:=by decide
 unfold rUint uvar;rw[if_pos rfl,rUF_of 9 0 n rest (by omega) hn.1 (by omega) (by omega) (by omega) (by simpa using hn.2)];simp
theorem zag_zig {n:Int} (h:i64 n):zagI (zigI n)=n:=by
 unfold i64 at h;unfold zigI zagI;split<;>split<;>omega
theorem rInt_of {n:Int} (hn:i64 n) (rest:List Int):rInt (encI n++rest,0)=(n,(rest,0)):=by
 unfold rInt encI;rw[rUint_of (zigI_u64 hn),zag_zig hn]
theorem rRaw_of {xs:List Int} (hl:xs.length≤2^60) (rest:List Int):rRaw (encRaw xs++rest,0)=(xs,(rest,0)):=by
 unfold rRaw encRaw;rw[List.append_assoc,rUint_of ⟨by omega,by omega⟩];have:¬(((xs++rest).length:Int) <xs.length):=by rw[List.length_append];omega
 simp only[if_neg this,ne_eq,not_true_eq_false,if_false,Int.toNat_natCast,List.take_left,List.drop_left]
theorem rMany_of:∀(xs:List Int) (rest:List Int),(∀x∈xs,i64 x)→rMany xs.length (xs.flatMap encI++rest,0)=(xs,(rest,0))
 |[],rest,_=>rfl
 |x::xs,rest,h=>by
  rw[List.length_cons,rMany,if_neg (by simp),List.flatMap_cons,List.append_assoc,rInt_of (h x (by simp)),rMany_of xs rest λy hy=>h y (by simp[hy])]
theorem rInts_of {xs:List Int} (hi:∀x∈xs,i64 x) (hl:xs.length≤2^60) (rest:List Int):rInts (encInts xs++rest,0)=(xs,(rest,0)):=by
 have hg:=flat_encI_ge xs;unfold rInts encInts;rw[List.append_assoc,rUint_of ⟨by omega,by omega⟩];have:¬(((xs.flatMap encI++rest).length:Int) <xs.length):=by rw[List.length_append];omega
 simp only[if_neg this,ne_eq,not_true_eq_false,if_false,Int.toNat_natCast,rMany_of xs rest hi]
def rdS (s:RS):Nat→RS
 |0=>s
 |k+1=>(rInt (rdS s k)).2
def rdV (s:RS) (k:Nat):Int:=(rInt (rdS s k)).1
theorem rdS_suf (s:RS):∀k,(rdS s k).1 <:+ s.1
 |0=>List.suffix_refl _
 |k+1=>(rInt_suf _).trans (rdS_suf s k)
theorem rdS_B {s:RS} (h:s.B) (k:Nat):(rdS s k).B:=h.suf (rdS_suf s k)
theorem rdV_i64 {s:RS} (h:s.B) (k:Nat):i64 (rdV s k):=rInt_i64 _ (rdS_B h k)
def recs {α:Type} (k:Nat) (mk:RS→α):Nat→RS→List α×RS
 |0,s=>([],s)
 |n+1,s=>(mk s::(recs k mk n (rdS s k)).1,(recs k mk n (rdS s k)).2)
theorem recs_suf {α:Type} (k:Nat) (mk:RS→α):∀(n:Nat) (s:RS),(recs k mk n s).2.1 <:+ s.1
 |0,s=>List.suffix_refl _
 |n+1,s=>(recs_suf k mk n _).trans (rdS_suf s k)
theorem recs_len {α:Type} (k:Nat) (mk:RS→α):∀(n:Nat) (s:RS),(recs k mk n s).1.length=n
 |0,s=>rfl
 |n+1,s=>by rw[recs];simp[recs_len k mk n]
theorem recs_all {α:Type} {k:Nat} {mk:RS→α} {p:α→Prop} (hp:∀s:RS,s.B→p (mk s)):∀(n:Nat) (s:RS),s.B→∀x∈(recs k mk n s).1,p x
 |0,s,_,x,hx=>by cases hx
 |n+1,s,h,x,hx=>by
  rw[recs]at hx;rcases List.mem_cons.1 hx with rfl|hx
  ·exact hp s h
  ·exact recs_all hp n _ (rdS_B h k) x hx
theorem recs_of {α:Type} {k:Nat} {mk:RS→α} {enc:α→List Int} {p:α→Prop} (h1:∀x rest,p x→mk (enc x++rest,0)=x∧rdS (enc x++rest,0) k=(rest,0)):
  ∀(l:List α) (rest:List Int),(∀x∈l,p x)→recs k mk l.length (l.flatMap enc++rest,0)=(l,(rest,0))
 |[],rest,_=>rfl
 |x::l,rest,h=>by
  obtain⟨e1,e2⟩:=h1 x (l.flatMap enc++rest) (h x (by simp));rw[List.length_cons,List.flatMap_cons,List.append_assoc,recs,e1,e2,recs_of h1 l rest λy hy=>h y (by simp[hy])]
theorem recs_add {α:Type} (k:Nat) (mk:RS→α):∀(n:Nat) (s:RS),recs k mk (n+1) s=((recs k mk n s).1++[mk (recs k mk n s).2],rdS (recs k mk n s).2 k)
 |0,s=>rfl
 |n+1,s=>by
  rw[recs,recs_add k mk n (rdS s k)];rfl
theorem manyI_of {L:Nat} {n:Int} (hn:i64 n) (rest:List Int) (h0:0≤n) (hl:n≤L):manyI L (encI n++rest,0)=n:=by
 unfold manyI;rw[rInt_of hn];rw[if_neg (by show ¬n <0;omega),if_neg (by show ¬(L:Int) <n;omega)]
def rdDat (s:RS):Dat:=⟨rdV s 0,rdV s 1,rdV s 2,rdV s 3⟩
def rdOwn (s:RS):Own:=⟨rdV s 0,rdV s 1,rdV s 2⟩
def rdLic (s:RS):Lic:=⟨rdV s 0,rdV s 1,rdV s 2,rdV s 3⟩
theorem rd4_of {a b c d:Int} (ha:i64 a) (hb:i64 b) (hc:i64 c) (hd:i64 d) (rest:List Int) {s:RS} (hs:s=(encI a++(encI b++(encI c++(encI d++rest))),0)):
  rdV s 0=a∧rdV s 1=b∧rdV s 2=c∧rdV s 3=d∧rdS s 4=(rest,0):=by
 subst hs;have e1:rdS (encI a++(encI b++(encI c++(encI d++rest))),0) 1=(encI b++(encI c++(encI d++rest)),0):=by rw[rdS,rdS,rInt_of ha]
 have e2:rdS (encI a++(encI b++(encI c++(encI d++rest))),0) 2=(encI c++(encI d++rest),0):=by rw[rdS,e1,rInt_of hb]
 have e3:rdS (encI a++(encI b++(encI c++(encI d++rest))),0) 3=(encI d++rest,0):=by rw[rdS,e2,rInt_of hc]
 refine⟨?_,?_,?_,?_,?_⟩
 ·unfold rdV;rw[rdS,rInt_of ha]
 ·unfold rdV;rw[e1,rInt_of hb]
 ·unfold rdV;rw[e2,rInt_of hc]
 ·unfold rdV;rw[e3,rInt_of hd]
 ·rw[rdS,e3,rInt_of hd]
theorem rd3_of {a b c:Int} (ha:i64 a) (hb:i64 b) (hc:i64 c) (rest:List Int) {s:RS} (hs:s=(encI a++(encI b++(encI c++rest)),0)):
  rdV s 0=a∧rdV s 1=b∧rdV s 2=c∧rdS s 3=(rest,0):=by
 subst hs;have e1:rdS (encI a++(encI b++(encI c++rest)),0) 1=(encI b++(encI c++rest),0):=by rw[rdS,rdS,rInt_of ha]
 have e2:rdS (encI a++(encI b++(encI c++rest)),0) 2=(encI c++rest,0):=by rw[rdS,e1,rInt_of hb]
 refine⟨?_,?_,?_,?_⟩
 ·unfold rdV;rw[rdS,rInt_of ha]
 ·unfold rdV;rw[e1,rInt_of hb]
 ·unfold rdV;rw[e2,rInt_of hc]
 ·rw[rdS,e2,rInt_of hc]
theorem rdDat_of (x:Dat) (rest:List Int) (h:x.ok):rdDat (encDat x++rest,0)=x∧rdS (encDat x++rest,0) 4=(rest,0):=by
 obtain⟨e1,e2,e3,e4,e5⟩:=rd4_of h.1 h.2.1 h.2.2.1 h.2.2.2 rest (s:=(encDat x++rest,0)) (by simp[encDat]);exact⟨by unfold rdDat;rw[e1,e2,e3,e4],e5⟩
theorem rdLic_of (x:Lic) (rest:List Int) (h:x.ok):rdLic (encLic x++rest,0)=x∧rdS (encLic x++rest,0) 4=(rest,0):=by
 obtain⟨e1,e2,e3,e4,e5⟩:=rd4_of h.1 h.2.1 h.2.2.1 h.2.2.2 rest (s:=(encLic x++rest,0)) (by simp[encLic]);exact⟨by unfold rdLic;rw[e1,e2,e3,e4],e5⟩
theorem rdOwn_of (x:Own) (rest:List Int) (h:x.ok):rdOwn (encOwn x++rest,0)=x∧rdS (encOwn x++rest,0) 3=(rest,0):=by
 obtain⟨e1,e2,e3,e5⟩:=rd3_of h.1 h.2.1 h.2.2 rest (s:=(encOwn x++rest,0)) (by simp[encOwn]);exact⟨by unfold rdOwn;rw[e1,e2,e3],e5⟩
theorem rdDat_ok {s:RS} (h:s.B):(rdDat s).ok:=⟨rdV_i64 h 0,rdV_i64 h 1,rdV_i64 h 2,rdV_i64 h 3⟩
theorem rdOwn_ok {s:RS} (h:s.B):(rdOwn s).ok:=⟨rdV_i64 h 0,rdV_i64 h 1,rdV_i64 h 2⟩
theorem rdLic_ok {s:RS} (h:s.B):(rdLic s).ok:=⟨rdV_i64 h 0,rdV_i64 h 1,rdV_i64 h 2,rdV_i64 h 3⟩
theorem p125 (n lo hi:Int):PSp Tryz.prog GLx 80 [.int .i64 n,.int .i64 lo,.int .i64 hi] [.bool (inI n lo hi)]:=by
 refine psp_of_awp (Zkk 80) rfl ?_;by_cases h1:lo≤n<;>by_cases h2:n≤hi<;>simp[Zga 80,awp,Zge 80 0,Zge 80 1,Zgr 80,entry,h1,h2,inI]
theorem p216 (n lo hi:Int):PSp Tryz.prog GLx 59 [.int .i64 n,.int .i64 lo,.int .i64 hi] [.bool (inI n lo hi)]:=by
 refine psp_of_awp (Zkk 59) rfl ?_;by_cases h1:lo≤n<;>by_cases h2:n≤hi<;>simp[Zga 59,awp,Zge 59 0,Zge 59 1,Zgr 59,entry,h1,h2,inI]
theorem p220 (a b:Dat):PSp Tryz.prog GLx 64 [a.V,b.V] [.bool (datLt a b)]:=by
 refine psp_of_awp (Zkk 64) rfl ?_;unfold datLt;by_cases h1:a.cl <b.cl
 ·simp[Zga 64,awp,Zge 64 0,Zge 64 1,Zgr 64,entry,Dat.V,h1]
 ·by_cases h2:a.cl=b.cl
  ·simp[Zga 64,awp,Zge 64 0,Zge 64 1,Zgr 64,entry,Dat.V,h2]
  ·simp[Zga 64,awp,Zge 64 0,Zge 64 1,Zgr 64,entry,Dat.V,h1,h2]
theorem p224 (a b:Int):PSp Tryz.prog GLx 68 [.int .i64 a,.int .i64 b] [.bool (decide (a <b))]:=by
 refine psp_of_awp (Zkk 68) rfl ?_;simp[Zga 68,awp,Zge 68 0,Zge 68 1,Zgr 68,entry]
theorem p229 (a b:Own):PSp Tryz.prog GLx 73 [a.V,b.V] [.bool (decide (a.party <b.party))]:=by
 refine psp_of_awp (Zkk 73) rfl ?_;simp[Zga 73,awp,Zge 73 0,Zge 73 1,Zgr 73,entry,Own.V]
theorem p231 (x:Lic):PSp Tryz.prog GLx 75 [x.V] [.bool (licOK x)]:=by
 refine psp_of_awp (Zkk 75) rfl ?_;have p1:=(p216 x.fr 1 4095).fsp;have p2:=(p216 x.to 1 4095).fsp;have p3:=(p216 x.fst 0 x.lst).fsp;unfold licOK;generalize inI x.fr 1 4095=A at*;generalize inI x.to 1 4095=B at*;generalize inI x.fst 0 x.lst=C at*;simp at p1 p2 p3;simp only[Zga 75,awp_seq,awp_reg,Zge 75 0,Zge 75 1,entry];simp[Lic.V];refine⟨_,_,p1 _,?_⟩;cases A with
 |false=>simp[awp_ret,Zgr 75]
 |true=>
  simp;refine⟨_,_,p2 _,?_⟩;cases B with
  |false=>simp[awp_ret,Zgr 75]
  |true=>
   simp;refine⟨_,_,p3 _,?_⟩;cases C with
   |false=>simp[awp_ret,Zgr 75]
   |true=>simp[awp_ret,Zgr 75]
theorem okR11:okR 1 1=true:=by decide
theorem p226 (x:Own) (hx:x.ok):PSp Tryz.prog GLx 70 [x.V] [.bool (ownOK x)]:=by
 refine psp_of_awp (Zkk 70) rfl ?_;have p1:=(p216 x.party 1 4095).fsp;have p2:=(p227 x.num x.den 1 1 hx.2.1 hx.2.2 (by unfold i64;omega) (by unfold i64;omega)).fsp;rw[okR11,Bool.and_true]at p2;unfold ownOK;generalize inI x.party 1 4095=A at*;simp only[Zga 70,awp_seq,awp_reg,Zge 70 0,Zge 70 1,entry];simp[Own.V];cases hR:okR x.num x.den with
 |false=>
  rw[hR]at p2;simp[ratV]at p1 p2;refine⟨_,_,p2 _,?_⟩;simp[Zge 70 2];refine⟨_,_,p1 _,?_⟩;cases A<;>simp[awp_ret,Zgr 70]
 |true=>
  rw[hR]at p2;simp[ratV]at p1 p2;refine⟨_,_,p2 _,?_⟩;simp[Zge 70 2];refine⟨_,_,p1 _,?_⟩;have hc:(cmpR x.num x.den 1 1≤0)↔x.num≤x.den:=by unfold cmpR;simp;split<;>(try split)<;>omega
  cases A with
  |false=>simp[awp_ret,Zgr 70]
  |true=>
   by_cases h1:x.num≤x.den
   ·have h2:=hc.2 h1;simp[h2,h1,awp_ret,Zgr 70]
   ·have h2:¬cmpR x.num x.den 1 1≤0:=λh=>h1 (hc.1 h);simp[h2,h1,awp_ret,Zgr 70]
def Low (h:List Row):Prop:=∀row∈h,Row.low h.length row=true
theorem p218 (x:Dat) (n:Int) (h:List Row) (r:Nat) (hr:h[r]?=some (.cells [.v (.int .i64 n)])) (hn:0≤n∧n≤2^40) (hl:Low h):
  FSp Tryz.prog GLx 62 [.v x.V,.ref r 0] h [.v (.bool (inI x.cl 0 (n-1)&&inI x.ix 0 63&&inI x.day 0 131072&&inI x.file 0 4095))] h:=by
 refine fsp_low (Zkk 62) rfl (Nat.le_refl _) hl (by simp[D.lt]) ?_;have w1:IntKind.i64.wrap (n-1)=n-1:=wrap_i64 (by omega) (by omega);have p1:=(p216 x.cl 0 (n-1)).fsp;have p2:=(p216 x.ix 0 63).fsp;have p3:=(p216 x.day 0 131072).fsp;have p4:=(p216 x.file 0 4095).fsp;have hr':=get_old [.cells [.v (.int .i64 x.cl),.v (.int .i64 x.ix),.v (.int .i64 x.day),.v (.int .i64 x.file)]] hr;generalize inI x.cl 0 (n-1)=A at*;generalize inI x.ix 0 63=B at*;generalize inI x.day 0 131072=C at*;generalize inI x.file 0 4095=E at*;simp at p1 p2 p3 p4;simp only[Zga 62,awp_seq,awp_reg,Zge 62 0,Zge 62 1,entryD];simp[Dat.V,hr',w1];refine⟨_,_,p1 _,?_⟩;cases A with
 |false=>simp[awp_ret,Zgr 62]
 |true=>
  simp;refine⟨_,_,p2 _,?_⟩;cases B with
  |false=>simp[awp_ret,Zgr 62]
  |true=>
   simp;refine⟨_,_,p3 _,?_⟩;cases C with
   |false=>simp[awp_ret,Zgr 62]
   |true=>
    simp;refine⟨_,_,p4 _,?_⟩;cases E<;>simp[awp_ret,Zgr 62]
theorem p222 (x n:Int) (h:List Row) (r:Nat) (hr:h[r]?=some (.cells [.v (.int .i64 n)])) (hn:0≤n∧n≤2^40):
  FSp Tryz.prog GLx 66 [.v (.int .i64 x),.ref r 0] h [.v (.bool (inI x 0 (n-1)))] h:=by
 refine fsp_of_awp (Zkk 66) rfl ?_;have w1:IntKind.i64.wrap (n-1)=n-1:=wrap_i64 (by omega) (by omega);have p1:=(p216 x 0 (n-1)).fsp;simp at p1;simp only[Zga 66,awp_seq,awp_reg,Zge 66 0,Zge 66 1,entryD];simp[hr,w1];refine⟨_,_,p1 _,?_⟩;simp[awp_ret,Zgr 66]
def X232 (A B R:Row) (xs:List Int):List Row:=[A,wr xs,.cells [.ref 1 0],B,R]
theorem ivl_i64 {x:Ivl} (hx:x.ok):∀n∈[x.ln,x.ld,x.hn,x.hd,b01 x.lo,b01 x.ho,b01 x.li,b01 x.hi],i64 n:=by
 intro n hn;simp at hn;rcases hn with rfl|rfl|rfl|rfl|rfl|rfl|rfl|rfl
 ·exact hx.1
 ·exact hx.2.1
 ·exact hx.2.2.1
 ·exact hx.2.2.2
 all_goals exact b01_i64 _
def Ivl.row (x:Ivl):Row:= .cells [.v (.int .i64 x.ln),.v (.int .i64 x.ld),.v (.int .i64 x.hn),.v (.int .i64 x.hd),.v (.bool x.lo),.v (.bool x.ho),.v (.bool x.li),.v (.bool x.hi)]
theorem l232 (A B R:Row) (ins:List Ivl) (hins:∀x∈ins,x.ok) (hl:ins.length≤2^40) (xs:List Int) (hb:xs.length+(ins.flatMap encIvl).length≤2^43) (d6:D) (J:List Row):
  awp Tryz.prog GLx (.loop (lG 78 1)) (λe s=>e= .exit 2∧find s.e 5= .ref 2 0∧find s.e 6=d6∧s.h=X232 A B R (xs++ins.flatMap encIvl)++(J++ins.map Ivl.row))
   ⟨[(5,.ref 2 0),(6,d6),(33,.v (.list (ins.map Ivl.V))),(34,.v (.int .i64 ins.length)),(35,.v (.int .i64 0))],X232 A B R xs++J⟩:=by
 refine awp_loop_I ins.length (λk s=>s.e=[(5,.ref 2 0),(6,d6),(33,.v (.list (ins.map Ivl.V))),(34,.v (.int .i64 ins.length)),(35,.v (.int .i64 k))]∧s.h=X232 A B R (xs++(ins.take k).flatMap encIvl)++(J++(ins.map Ivl.row).take k)) ⟨rfl,by simp⟩ ?_;rintro k ⟨se,sh⟩ hk ⟨he,hh⟩;simp only at he hh;subst he hh;simp only[Zgl 78 1,awp_seq,awp_reg,awp_block,awp_cond,Zge 78 11];simp;by_cases hlt:k <ins.length
 ·obtain⟨x,hx⟩:∃x,ins[k]?=some x:=⟨_,List.getElem?_eq_getElem hlt⟩;have hxe:ins[k]=x:=(List.getElem?_eq_some_iff.1 hx).2;have ox:=hins x (List.mem_of_getElem? hx);have hw:IntKind.i64.wrap ((k:Int)+1)=k+1:=wrap_i64 (by omega) (by omega);rw[if_pos (by omega),awp_skip];simp only[awp_regD,Zge 78 12,Zge 78 13];simp[hx,Ivl.V,putL,X232];refine⟨_,_,⟨rfl,rfl⟩,_,p295 x.lo,_,_,⟨rfl,rfl⟩,_,p295 x.ho,_,_,⟨rfl,rfl⟩,_,p295 x.li,_,_,⟨rfl,rfl⟩,_,p295 x.hi,?_⟩;simp;have hle:=flat_len_take ins encIvl (k+1);rw[flat_take hlt,hxe,List.length_append]at hle;have hp:=λh hr=>p100 [x.ln,x.ld,x.hn,x.hd,b01 x.lo,b01 x.ho,b01 x.li,b01 x.hi] (ivl_i64 ox) (by simp) h 1 (xs++(ins.take k).flatMap encIvl) hr (by rw[List.length_append];omega);simp[nums]at hp;refine⟨_,_,hp _ rfl,?_⟩;have htk:ins.take (k+1)=ins.take k++[x]:=by rw[List.take_succ_eq_append_getElem hlt,hxe]
  have htr:(ins.map Ivl.row).take (k+1)=(ins.map Ivl.row).take k++[x.row]:=by rw[←List.map_take,htk,List.map_append,List.map_take];rfl
  simp[Zge 78 14,hw,hlt,htk,-List.map_take];exact⟨rfl,htr.symm⟩
 ·have:k=ins.length:=by omega
  subst this;rw[if_neg (by omega),awp_exit];simp;exact List.take_of_length_le (by simp)
theorem y232 (A B:Row) (e0:Env) (he:find e0 5= .ref 2 0) (g:F) (hg:g.ok1) (hk:g.kids.length≤2^40) (xs:List Int) (hb:xs.length+(encNode g).length≤2^43) (J:List Row):
  YSp Tryz.prog GLx 4 [.v g.V] (X232 A B (recRow Tryz.prog GLx .ready e0 [18] (lG 78 0) (lG 78 1000)) xs++J) true (X232 A B (recRow Tryz.prog GLx .ready e0 [18] (lG 78 0) (lG 78 1000)) (xs++encNode g)++(J++(.cells g.cells::g.ins.map Ivl.row))):=by
 obtain⟨op,n,ins,kids⟩:=g;obtain⟨o1,o2,o3,o4⟩:=hg;simp only[F.op,F.n,F.ins,F.kids]at*;refine ysp_of_awp (e0:=e0) (ps:=[18]) (asg:=(lG 78 0)) (body:=(lG 78 1000)) (by simp[X232]) rfl ?_;simp only[F.cells,F.op,F.n,F.ins,F.kids,F.V_eq,encNode]at*;simp only[List.length_append]at hb;have il:i64 (ins.length:Int):=by unfold i64;omega
 have kl:i64 (kids.length:Int):=by unfold i64;omega
 simp only[setPs,Zgl 78 0,Zgl 78 1000,awp_reg,awp_block,awp_seq,Zge 78 6,Zge 78 7,Zge 78 8,Zge 78 9,Zge 78 10];simp[X232,he,putL];refine⟨_,_,(p98 op o1 _ 1 xs rfl (by omega)),?_⟩;simp;refine⟨_,_,(p98 n o2 _ 1 (xs++encI op) rfl (by simp;omega)),?_⟩;simp;refine⟨_,_,(p98 ins.length il _ 1 (xs++(encI op++encI n)) (by simp) (by simp;omega)),?_⟩;simp;have hl:=l232 A B (recRow Tryz.prog GLx .busy e0 [18] (lG 78 0) (lG 78 1000)) ins o3 o4 (xs++(encI op++(encI n++encI ins.length))) (by simp only[List.length_append];omega) (.ref (J.length+5) 0) (J++[.cells [.v (.int .i64 op),.v (.int .i64 n),.v (.list (ins.map Ivl.V)),.v (.list (kids.map F.V))]]);simp[X232]at hl;refine awp_mono _ ?_ hl;rintro e ⟨se,sh⟩ ⟨rfl,h5,h6,hh⟩;simp only at h5 h6 hh;subst hh;simp[Zge 78 15,h5,h6];refine⟨_,_,(p98 kids.length kl _ 1 (xs++(encI op++(encI n++(encI ins.length++ins.flatMap encIvl)))) (by simp) (by simp only[List.length_append];omega)),?_⟩;simp[roundEnd];rfl
theorem r232 (A B:Row) (e0:Env) (he:find e0 5= .ref 2 0):∀(ns:List F),(∀g∈ns,g.ok1∧g.kids.length≤2^40)→∀xs:List Int,xs.length+(ns.flatMap encNode).length≤2^43→
  RunY Tryz.prog GLx 4 (ns.map F.V) (X232 A B (recRow Tryz.prog GLx .ready e0 [18] (lG 78 0) (lG 78 1000)) xs) true (X232 A B (recRow Tryz.prog GLx .ready e0 [18] (lG 78 0) (lG 78 1000)) (xs++ns.flatMap encNode)):=by
 intro ns;induction ns with
 |nil=>intro _ xs _;exact⟨rfl,by simp⟩
 |cons g ns ih=>
  intro hk xs hb;rw[List.flatMap_cons,List.length_append]at hb;obtain⟨h1,h2⟩:=hk g (by simp);refine⟨true,X232 A B (recRow Tryz.prog GLx .ready e0 [18] (lG 78 0) (lG 78 1000)) (xs++encNode g),rfl,λJ=>⟨_,y232 A B e0 he g h1 h2 xs (by omega) J⟩,?_⟩;have:=ih (λx hx=>hk x (by simp[hx])) (xs++encNode g) (by rw[List.length_append];omega);rw[List.append_assoc]at this;exact this
theorem F.kids_le:∀f:F,∀g∈f.nodes,g.kids.length≤f.size:=by
 refine F.ind λop n ins kids ih g hg=>?_;rw[F.size_eq];rw[F.nodes_eq]at hg;rcases List.mem_cons.1 hg with rfl|hg
 ·have:=F.kids_len kids;simp only[F.kids];omega
 ·obtain⟨k,hk,hg⟩:=List.mem_flatMap.1 hg;have:=ih k hk g hg;have:=F.kid_size hk;omega
theorem p232 (f:F) (hok:f.ok) (hb:(encF f).length≤2^43):PSp Tryz.prog GLx 78 [f.V] [nums .u8 (if formE f=0 then encF f else []),.int .i64 (formE f)]:=by
 refine psp_of_awp (Zkk 78) rfl ?_;have h1:=(p66 f hok).fsp;have h68:=p68 f;have hsz:=hok.2;have hr:=r232 (.cells f.cells) (.cells f.cells) (cpE [(5,.ref 2 0),(17,.func 163 [.ref 3 0])]) rfl f.nodes (λg hg=>⟨hok.1 g hg,by have:=F.kids_le f g hg;omega⟩) [] (by simpa[encF]using hb);obtain⟨J,hp⟩:=p147 f hok 4 3 _ _ _ hr rfl;have e0:([]:List Int)++f.nodes.flatMap encNode=encF f:=rfl;rw[e0]at hp;generalize encF f=bs at*;generalize formE f=er at*;obtain⟨op,n,ins,kids⟩:=f;simp only[F.cells,F.op,F.n,F.ins,F.kids,F.V_eq]at*;simp only[Zga 78,awp_seq,awp_reg,awp_block,awp_cond,Zge 78 0,Zge 78 1,Zge 78 2,entry];simp at h1 h68;simp;refine⟨_,_,h1 _,?_⟩;by_cases h0:er=0
 ·subst h0;simp[awp_skip,Zge 78 4,Zge 78 5,putL];refine⟨_,_,h68 _,?_⟩;simp;refine awp_range_of 163 [.ref 3 0] [] _ _ .ready rfl rfl hp rfl ?_;simp[rangeEnd,Zge 78 16,X232];refine⟨_,_,(p102 _ 1 bs rfl (by omega)),?_⟩;simp[awp_ret,Zgr 78,nums]
 ·simp[h0,awp_ret,Zge 78 3,Zgr 78,nums]
def isB (l:List Int):Prop:=∀x∈l,0≤x∧x <256
theorem isB.app {a b:List Int} (ha:isB a) (hb:isB b):isB (a++b):=λx hx=>(List.mem_append.1 hx).elim (ha x) (hb x)
theorem isB.flat {α:Type} {f:α→List Int} {l:List α} (h:∀x∈l,isB (f x)):isB (l.flatMap f):=λy hy=>by
 obtain⟨x,hx,hy⟩:=List.mem_flatMap.1 hy;exact h x hx y hy
theorem isB.uvarF:∀(k:Nat) (n:Int),0≤n→n <128^(k+1)→isB (Go.Va.uvarF k n)
 |0,n,h0,h1=>by
  have e:(128:Int)^(0+1)=128:=by decide
  intro x hx;simp[Go.Va.uvarF]at hx;subst hx;omega
 |k+1,n,h0,h1=>by
  simp only[Go.Va.uvarF];split
  ·intro x hx;simp at hx;omega
  ·intro x hx;rcases List.mem_cons.1 hx with rfl|hx
   ·omega
   ·exact isB.uvarF k (n/128) (by omega) (Int.ediv_lt_of_lt_mul (by decide) (by rw[←Int.pow_succ];exact h1)) x hx
theorem isB.uvar {n:Int} (h0:0≤n) (h1:n <18446744073709551616):isB (Go.Va.uvar n):=by
 have e:(128:Int)^(9+1)=1180591620717411303424:=by decide
 exact isB.uvarF 9 n h0 (by omega)
theorem isB.encI {n:Int} (h:i64 n):isB (Go.Va.encI n):=isB.uvar (zigI_u64 h).1 (zigI_u64 h).2
theorem isB.encInts {l:List Int} (h:∀n∈l,i64 n) (hl:l.length≤2^60):isB (Go.Va.encInts l):=(isB.uvar (by omega) (by omega)).app (isB.flat λn hn=>isB.encI (h n hn))
theorem isB.encRaw {l:List Int} (h:isB l) (hl:l.length≤2^60):isB (Go.Va.encRaw l):=(isB.uvar (by omega) (by omega)).app h
theorem isB.encF {f:F} (hf:f.ok):isB (Go.Va.encF f):=by
 refine isB.flat λg hg=>?_;obtain⟨h1,h2,h3,h4⟩:=hf.1 g hg;have hk:=F.kids_le f g hg;have hs:=hf.2;exact(isB.encI h1).app ((isB.encI h2).app ((isB.encI (by unfold i64;omega)).app ((isB.flat λx hx=>isB.encInts (ivl_i64 (h3 x hx)) (by simp)).app (isB.encI (by unfold i64;omega)))))
theorem isB.encClms {l:List Clm} (hl:∀c∈l,c.ok) (hn:l.length≤2^40) (hb:(Go.Va.encClms l).length≤2^60):isB (Go.Va.encClms l):=by
 refine(isB.encI (by unfold i64;omega)).app (isB.flat λc hc=>?_);obtain⟨o1,o2,o3⟩:=hl c hc;unfold Go.Va.encClms at hb;rw[List.length_append]at hb;have:=flat_len_mem (f:=encClm) hc;simp only[encClm,List.length_append,Go.Va.encRaw]at this;exact(isB.encInts o1 (by omega)).app (isB.encRaw (isB.encF o3) (by omega))
theorem firstE_all {e:Nat→Int}:∀(m k:Nat),firstE e k m=0→∀j,k≤j→j <k+m→e j=0
 |0,k,_,j,h1,h2=>by omega
 |m+1,k,h,j,h1,h2=>by
  simp only[firstE]at h;split at h
  ·rename_i h3;exact absurd h h3
  ·rename_i h3;by_cases hj:j=k
   ·subst hj;simpa using h3
   ·exact firstE_all m (k+1) h j (by omega) (by omega)
theorem clmsE_all {l:List Clm} (h:clmsE l=0):∀c∈l,formE c.body=0:=by
 intro c hc;unfold clmsE at h;split at h
 ·cases h
 ·obtain⟨k,hk,hx⟩:=List.getElem_of_mem hc;have:=firstE_all _ _ h k (by omega) (by omega);unfold clmAt at this;rw[List.getElem?_eq_getElem hk,hx]at this;simp only[clmE]at this;split at this
  ·cases this
  ·split at this
   ·exact this
   ·cases this
theorem p130 (l:List Clm) (hl:∀c∈l,c.ok) (hn:l.length≤2^40) (hb:(encClms l).length≤2^39):PSp Tryz.prog GLx 22 [.list (l.map Clm.V)] [nums .u8 (if clmsE l=0 then encClms l else []),.int .i64 (clmsE l)]:=by
 refine psp_of_awp (Zkk 22) rfl ?_;have p1:=(p138 l hl hn).fsp;have hz:clmsE l=0→∀c∈l,formE c.body=0:=clmsE_all;have il:i64 (l.length:Int):=by unfold i64;omega
 generalize clmsE l=e at*;unfold encClms at hb ⊢;rw[List.length_append]at hb;simp only[Zga 22,awp_seq,awp_reg,awp_block,awp_cond,Zge 22 0,Zge 22 1,Zge 22 2,entry];simp;refine⟨_,_,p1 _,?_⟩;by_cases h:e=0
 ·subst h;have hz:=hz rfl;simp[awp_skip,Zge 22 4,Zge 22 5];refine⟨_,_,(p98 l.length il _ 0 [] rfl (by simp)),?_⟩;simp[Zge 22 6];refine awp_loop_I l.length (λk s=>s.e=[(5,.ref 0 0),(21,.v (.list (l.map Clm.V))),(22,.v (.int .i64 l.length)),(23,.v (.int .i64 k))]∧∃J,s.h=wr (encI l.length++(l.take k).flatMap encClm)::J) ⟨rfl,[],by simp⟩ ?_;rintro k ⟨se,sh⟩ hk ⟨he,J,hh⟩;simp only at he hh;subst he hh;simp only[Zgl 22 0,awp_seq,awp_reg,awp_block,awp_cond,Zge 22 7];simp;by_cases hlt:k <l.length
  ·obtain⟨x,hx⟩:∃x,l[k]?=some x:=⟨_,List.getElem?_eq_getElem hlt⟩;have hxm:=List.mem_of_getElem? hx;have hxe:l[k]=x:=(List.getElem?_eq_some_iff.1 hx).2;obtain⟨o1,o2,o3⟩:=hl x hxm;have hf:=hz x hxm;have hw:IntKind.i64.wrap ((k:Int)+1)=k+1:=wrap_i64 (by omega) (by omega);have hle:=flat_len_take l encClm (k+1);rw[flat_take hlt,hxe,List.length_append]at hle;have e:(l.take (k+1)).flatMap encClm=(l.take k).flatMap encClm++encClm x:=by rw[flat_take hlt,hxe]
   have ec:(encClm x).length=(encInts x.refs).length+(encRaw (encF x.body)).length:=by simp[encClm]
   have er:(encRaw (encF x.body)).length=(uvar (encF x.body).length).length+(encF x.body).length:=by simp[encRaw]
   have p2:=(p232 x.body o3 (by omega)).fsp;have hp100:=λh hr=>p100 x.refs o1 o2 h 0 (encI l.length++(l.take k).flatMap encClm) hr (by rw[List.length_append];omega);have hbytes:isB (encF x.body):=isB.encF o3;have hp99:=λh hr=>p99 (encF x.body) hbytes (by omega) h 0 (encI l.length++((l.take k).flatMap encClm++encInts x.refs)) hr (by simp only[List.length_append];omega);rw[F.V_flds,hf]at p2;have e2:encClm x=encInts x.refs++encRaw (encF x.body):=rfl;generalize encRaw (encF x.body)=B at*;generalize encInts x.refs=A at*;generalize encF x.body=C at*;rw[if_pos (by omega),awp_skip];simp only[Zge 22 8,Zge 22 9,Zge 22 10];simp[nums]at p2 hp99 hp100;simp[hx,Clm.V,nums,putL];refine⟨_,_,p2 _,?_⟩;simp[awp_skip,Zge 22 12];refine⟨_,_,(hp100 _ rfl),?_⟩;simp[Zge 22 13];refine⟨_,_,(hp99 _ rfl),?_⟩;simp[Zge 22 14,hw,hlt,e,e2]
  ·have:k=l.length:=by omega
   subst this;rw[if_neg (by omega),awp_exit];simp[Zge 22 15];refine⟨_,_,(p102 _ 0 (encI l.length++l.flatMap encClm) rfl (by rw[List.length_append];omega)),?_⟩;simp[awp_ret,Zgr 22,nums]
 ·simp[h,awp_ret,Zge 22 3,Zgr 22,nums]
def pieceA (k:Int):F:= .mk 1 ((IntKind.i64.wrap (k.tdiv 8)).tmod 6) [] []
def pieceC (k:Int):F:= .mk 2 ((IntKind.i64.wrap (k.tdiv 8)).tmod 2) [⟨(IntKind.i64.wrap (k.tdiv 48)).tmod 4,1,
 IntKind.i64.wrap (IntKind.i64.wrap ((IntKind.i64.wrap (k.tdiv 48)).tmod 4+1)+(IntKind.i64.wrap (k.tdiv 192)).tmod 2),1,(IntKind.i64.wrap (k.tdiv 384)).tmod 2==1,false,false,false⟩] []
def pieceF (n:Int):F:=
 let k:=aroundI n 1048576
 if k.tmod 8=0∨k.tmod 8=1∨k.tmod 8=2 then pieceA k
 else if k.tmod 8=3∨k.tmod 8=4 then pieceC k
 else if k.tmod 8=5 then .mk 4 0 [] [pieceC k,pieceA k]
 else if k.tmod 8=6 then .mk 3 0 [] [pieceA k]
 else .mk 6 0 [] [pieceA k]
set_option maxRecDepth 100000 in
set_option maxHeartbeats 2000000 in
theorem p212 (n:Int):PSp Tryz.prog GLx 58 [.int .i64 n] [(pieceF n).V]:=by
 refine psp_of_awp (Zkk 58) rfl ?_;have p1:=(p11 n 1048576 (by decide)).fsp;unfold pieceF pieceA pieceC;generalize aroundI n 1048576=k at*;simp at p1;simp only[Zga 58,awp_seq,awp_reg,awp_block,awp_cond,Zge 58 0,Zge 58 1,entry];simp;refine⟨_,_,p1 _,?_⟩;simp[Zge 58 2,putL];simp[Zge 58 3,putL];simp[Zge 58 4,putL];simp[Zge 58 5,putL];by_cases h0:k.tmod 8=0
 ·simp[Zge 58 6,Zge 58 7,h0,awp_skip,Zge 58 10,putL,awp_ret,Zgr 58,F.V_eq]
 by_cases h1:k.tmod 8=1
 ·simp[Zge 58 6,Zge 58 7,Zge 58 8,h1,awp_skip,Zge 58 10,putL,awp_ret,Zgr 58,F.V_eq]
 by_cases h2:k.tmod 8=2
 ·simp[Zge 58 6,Zge 58 7,Zge 58 8,Zge 58 9,h2,awp_skip,Zge 58 10,putL,awp_ret,Zgr 58,F.V_eq]
 by_cases h3:k.tmod 8=3
 ·simp[Zge 58 6,Zge 58 7,Zge 58 8,Zge 58 9,Zge 58 11,h3,awp_skip,Zge 58 13,putL,awp_ret,Zgr 58,F.V_eq,Ivl.V]
 by_cases h4:k.tmod 8=4
 ·simp[Zge 58 6,Zge 58 7,Zge 58 8,Zge 58 9,Zge 58 11,Zge 58 12,h4,awp_skip,Zge 58 13,putL,awp_ret,Zgr 58,F.V_eq,Ivl.V]
 by_cases h5:k.tmod 8=5
 ·simp[Zge 58 6,Zge 58 7,Zge 58 8,Zge 58 9,Zge 58 11,Zge 58 12,Zge 58 14,h5,awp_skip,Zge 58 15,putL,awp_ret,Zgr 58,F.V_eq,Ivl.V]
 by_cases h6:k.tmod 8=6
 ·simp[Zge 58 6,Zge 58 7,Zge 58 8,Zge 58 9,Zge 58 11,Zge 58 12,Zge 58 14,Zge 58 16,h6,awp_skip,Zge 58 17,putL,awp_ret,Zgr 58,F.V_eq]
 simp[Zge 58 6,Zge 58 7,Zge 58 8,Zge 58 9,Zge 58 11,Zge 58 12,Zge 58 14,Zge 58 16,h0,h1,h2,h3,h4,h5,h6,awp_skip,Zge 58 18,putL,awp_ret,Zgr 58,F.V_eq]
theorem aroundI_b (a n:Int) (hn:0 <n): -n <aroundI a n∧aroundI a n <n:=by
 have key:∀b:Int,-n <b.tmod n∧b.tmod n <n:=λb=>by
  have h1:=Int.tmod_lt_of_pos b hn;have h2:=Int.tmod_lt_of_pos (-b) hn;rw[Int.neg_tmod]at h2;omega
 unfold aroundI;split<;>exact key _
theorem pickI_b (l:List Int) (i n:Int) (hn:0 <n): -n <pickI l i n∧pickI l i n <n:=by
 unfold pickI;split
 ·omega
 ·split
  ·exact aroundI_b _ _ hn
  ·omega
def claimF (l:List Int) (i:Nat):Clm:=
 let k:=pickI l (2*i+1) 1000
 let m:=pickI l (2*i+2) 1048576
 ⟨if i=2∧(IntKind.i64.wrap (k.tdiv 16)).tmod 4=0 then [0,1] else if 0 <i∧(IntKind.i64.wrap (k.tdiv 4)).tmod 2=0 then [(IntKind.i64.wrap (k.tdiv 8)).tmod i] else [],
  if k.tmod 4=0 then .mk 5 0 [] [pieceF m,pieceF (IntKind.i64.wrap (k.tdiv 4))] else pieceF m⟩
def manyC (l:List Int):Nat:=(1+pickI l 0 3).toNat
def claimsF (l:List Int):List Clm:=(List.range (manyC l)).map (claimF l)
theorem manyC_le (l:List Int):manyC l≤3:=by have:=pickI_b l 0 3 (by decide);unfold manyC;omega
def c124t:AC:=(.seq (.seq (.reg (oG 18 10) [0,3,4,5,6,7,46]) (.cond (.t 46 false) (.reg (oG 18 11) [0,3,4,5,6,7]) .skip)) (.seq (.seq (.reg (oG 18 12) [0,3,4,5,7,60]) (.cond (.t 60 false) (.reg (oG 18 13) [0,3,4,5,7]) .skip)) (.reg (oG 18 14) [0,3,4,5])))
def c124m:AC:=(.seq (.reg (oG 18 8) [0,3,4,5,6,7,30]) (.cond (.t 30 false) (.regD (oG 18 9) [0,3,4,5,6,7] [[],[0],[],[2],[2,3],[0,1,2,3,4],[0,1,2,3,4,5],[0,1,2,3,4,5,6],[0,1,2,3,4,5,6,7]]) .skip))
theorem c124l0_eq:(lG 18 0)=(.seq (.seq (.reg (oG 18 4) [0,3,4,5,13]) (.cond (.t 13 false) .skip (.exit 0))) (.seq (.block 1 (.seq (.reg (oG 18 6) [0,3,4,5,6]) (.seq (.reg (oG 18 7) [0,3,4,5,6,7]) (.seq c124m c124t)))) (.reg (oG 18 5) [0,3,4,5]))):=(Zgl 18 0 :)
def refsF (i:Nat) (k:Int):List Int:=if i=2∧(IntKind.i64.wrap (k.tdiv 16)).tmod 4=0 then [0,1] else if 0 <i∧(IntKind.i64.wrap (k.tdiv 4)).tmod 2=0 then [(IntKind.i64.wrap (k.tdiv 8)).tmod i] else []
set_option maxRecDepth 100000 in
theorem l124t (i:Nat) (k:Int) (b:F) (d0 d4 dI:D) (hdI:dI.copy= .v (.list (b.ins.map Ivl.V))) (xs:List V) (J:List Row) (hi:i≤3) (hxs:xs.length≤3) (hh:headOK 5 xs=true) (Q:AExit→St→Prop)
  (hQ:∀J',Q .normal ⟨[(0,d0),(3,.own 72 5 (xs++[Clm.V ⟨refsF i k,b⟩])),(4,d4),(5,.v (.int .i64 i))],J'⟩):
  ∀e,find e 0=d0→find e 3= .own 72 5 xs→find e 4=d4→find e 5= .v (.int .i64 i)→find e 6= .v (.int .i64 k)→find e 7= .ref J.length 0→awp Tryz.prog GLx c124t Q ⟨e,
   J++[.cells [.own 3 1 [],.v (.int .i64 b.op),.v (.int .i64 b.n),dI,.v (.list (b.kids.map F.V))]]⟩:=by
 simp only[D.copy]at hdI;intro e f0 f3 f4 f5 f6 f7;have hroom:roomy (xs.length+1) 88=true:=by simp[roomy];omega
 have hq:∀(refs:List Int) J',refs=refsF i k→Q .normal ⟨[(0,d0),(3,.own 72 5 (xs++[V.agg [.list (refs.map (.int .i64)),.int .i64 b.op,.int .i64 b.n,.list (b.ins.map Ivl.V),.list (b.kids.map F.V)]])),(4,d4),(5,.v (.int .i64 i))],J'⟩:=by
  rintro refs J' rfl;exact hQ J'
 clear hQ;unfold refsF at hq;unfold c124t;simp only[awp_seq,awp_reg,awp_cond,Zge 18 10];simp[f0,f3,f4,f5,f6,f7];by_cases hi0:i=0
 ·subst hi0;simp[awp_skip,Zge 18 12,Zge 18 14,hroom,hdI];exact hq [] _ (by simp)
 have hi1:0 <i:=by omega
 have hi1':(i:Int)≠0:=by omega
 by_cases h2:(IntKind.i64.wrap (k.tdiv 4)).tmod 2=0
 ·simp[hi1,h2,Zge 18 11,hi0];by_cases h3:i=2
  ·subst h3;by_cases h4:(IntKind.i64.wrap (k.tdiv 16)).tmod 4=0
   ·simp[Zge 18 12,h4,Zge 18 13,Zge 18 14,hroom,hdI];exact hq [0,1] _ (by simp[h4])
   ·simp[Zge 18 12,h4,awp_skip,Zge 18 14,hroom,hdI];exact hq [(IntKind.i64.wrap (k.tdiv 8)).tmod 2] _ (by simp[h4,h2])
  ·have h3':¬(i:Int)=2:=by omega
   simp[Zge 18 12,h3',awp_skip,Zge 18 14,hroom,hdI];exact hq [(IntKind.i64.wrap (k.tdiv 8)).tmod i] _ (by simp[h3,h2,hi1])
 ·simp[hi1,h2,awp_skip];by_cases h3:i=2
  ·subst h3;by_cases h4:(IntKind.i64.wrap (k.tdiv 16)).tmod 4=0
   ·simp[Zge 18 12,h4,Zge 18 13,Zge 18 14,hroom,hdI];exact hq [0,1] _ (by simp[h4])
   ·simp[Zge 18 12,h4,Zge 18 14,hroom,hdI];exact hq [] _ (by simp[h4,h2])
  ·have h3':¬(i:Int)=2:=by omega
   simp[Zge 18 12,h3',Zge 18 14,hroom,hdI];exact hq [] _ (by simp[h3,h2])
set_option maxRecDepth 100000 in
theorem l124m (k:Int) (f g:F) (hg:PSp Tryz.prog GLx 58 [.int .i64 (IntKind.i64.wrap (k.tdiv 4))] [g.V]) (d0 d4 d5:D) (xs:List V) (J:List Row) (Q:AExit→St→Prop)
  (hQ:∀(b:F) e (dI:D),dI.copy= .v (.list (b.ins.map Ivl.V))→b=(if k.tmod 4=0 then .mk 5 0 [] [f,g] else f)→find e 0=d0→find e 3= .own 72 5 xs→find e 4=d4→find e 5=d5→find e 6= .v (.int .i64 k)→find e 7= .ref J.length 0→Q .normal ⟨e,
   J++[.cells [.own 3 1 [],.v (.int .i64 b.op),.v (.int .i64 b.n),dI,.v (.list (b.kids.map F.V))]]⟩):
  awp Tryz.prog GLx c124m Q ⟨[(0,d0),(3,.own 72 5 xs),(4,d4),(5,d5),(6,.v (.int .i64 k)),(7,.ref J.length 0)],
   J++[.cells [.own 3 1 [],.v (.int .i64 f.op),.v (.int .i64 f.n),.v (.list (f.ins.map Ivl.V)),.v (.list (f.kids.map F.V))]]⟩:=by
 unfold c124m;simp only[awp_seq,awp_reg,awp_cond,Zge 18 8];simp;by_cases h4:k.tmod 4=0
 ·rw[if_pos h4]at hQ ⊢;have hQ:=hQ _ [(0,d0),(3,.own 72 5 xs),(4,d4),(5,d5),(6,.v (.int .i64 k)),(7,.ref J.length 0)] (.own 190 8 []) rfl rfl rfl rfl rfl rfl rfl rfl;simp only[F.op,F.n,F.kids,List.map_cons,List.map_nil]at hQ;rw[F.V_flds]at hg;rw[F.V_flds f,F.V_flds g]at hQ;simp only[awp_regD,Zge 18 9];simp;refine⟨_,_,⟨rfl,rfl⟩,_,hg,?_⟩;simp[putL];exact hQ
 ·rw[if_neg h4]at hQ ⊢;rw[awp_skip];exact hQ f _ _ rfl rfl rfl rfl rfl rfl rfl rfl
set_option maxRecDepth 100000 in
theorem p124 (l:List Int):PSp Tryz.prog GLx 18 [nums .i64 l] [.list ((claimsF l).map Clm.V)]:=by
 refine psp_of_awp (Zkk 18) rfl ?_;have p1:=(p47 l 0 3 (by decide)).fsp;have hb:=pickI_b l 0 3 (by decide);have hm:manyC l=(1+pickI l 0 3).toNat:=rfl;have hm3:=manyC_le l;have w1:IntKind.i64.wrap (1+pickI l 0 3)=1+pickI l 0 3:=wrap_i64 (by omega) (by omega);simp[nums]at p1;simp only[Zga 18,awp_seq,awp_reg,awp_block,Zge 18 0,Zge 18 1,Zge 18 2,Zge 18 3,entry];simp[nums];refine⟨_,_,p1 _,?_⟩;simp[w1];generalize 1+pickI l 0 3=M at*;refine awp_loop_I (manyC l) (λi s=>s.e=[(0,.v (nums .i64 l)),(3,.own 72 5 ((List.range i).map λj=>(claimF l j).V)),(4,.v (.int .i64 M)),(5,.v (.int .i64 i))]) (by simp[nums]) ?_;rintro i ⟨se,J⟩ hi he;simp only at he;subst he;rw[c124l0_eq];simp only[awp_seq,awp_reg,awp_block,awp_cond,Zge 18 4];simp[nums];by_cases hlt:i <manyC l
 ·have hlt':(i:Int) <M:=by omega
  have v1:IntKind.i64.wrap (2*(i:Int))=2*i:=wrap_i64 (by omega) (by omega);have v2:IntKind.i64.wrap (2*(i:Int)+1)=2*i+1:=wrap_i64 (by omega) (by omega);have v3:IntKind.i64.wrap (2*(i:Int)+2)=2*i+2:=wrap_i64 (by omega) (by omega);have hw:IntKind.i64.wrap ((i:Int)+1)=i+1:=wrap_i64 (by omega) (by omega);have p2:=(p47 l (2*i+1) 1000 (by decide)).fsp;have p3:=(p47 l (2*i+2) 1048576 (by decide)).fsp;have hcl:∀b,b=(if (pickI l (2*i+1) 1000).tmod 4=0 then F.mk 5 0 [] [pieceF (pickI l (2*i+2) 1048576),pieceF (IntKind.i64.wrap ((pickI l (2*i+1) 1000).tdiv 4))] else pieceF (pickI l (2*i+2) 1048576))→(⟨refsF i (pickI l (2*i+1) 1000),b⟩:Clm)=claimF l i:=by
   rintro b rfl;rfl
  have p4:=(p212 (pickI l (2*i+2) 1048576)).fsp;have p5:=p212 (IntKind.i64.wrap ((pickI l (2*i+1) 1000).tdiv 4));generalize pickI l (2*i+1) 1000=k at*;generalize pickI l (2*i+2) 1048576=m at*;generalize pieceF m=f at*;generalize pieceF (IntKind.i64.wrap (k.tdiv 4))=g at*;rw[F.V_flds]at p4;simp[nums]at p2 p3 p4;rw[if_pos hlt',awp_skip];simp only[Zge 18 6];simp[v1,v2];refine⟨_,_,p2 _,?_⟩;simp[Zge 18 7,v1,v3];refine⟨_,_,p3 _,?_⟩;simp;refine⟨_,_,p4 _,?_⟩;simp[putL];refine l124m k f g p5 _ _ _ _ J _ ?_;intro b e dI hdI hbb f0 f3 f4 f5 f6 f7;simp only[];refine l124t i k b _ _ dI hdI _ J (by omega) (by simp;omega) ?_ _ ?_ e f0 f3 f4 f5 f6 f7
  ·cases i with
   |zero=>rfl
   |succ i=>simp[List.range_succ_eq_map,Clm.V]
  ·intro J';rw[hcl b hbb];simp[Zge 18 5,hw,hlt,List.range_succ]
 ·have:i=manyC l:=by omega
  subst this;have hlt':¬((manyC l:Nat):Int) <M:=by omega
  rw[if_neg hlt',awp_exit];simp[awp_ret,Zge 18 15,Zgr 18,claimsF,Function.comp_def]
open Go.Proofs
theorem Row.low_mono {n m:Nat} (h:n≤m) {row:Row} (hr:Row.low n row=true):Row.low m row=true:=by
 cases row with
 |cells ds=>
  simp only[Row.low]at hr ⊢;exact lts_all λd hd=>by
   obtain⟨i,hi⟩:=List.getElem?_of_mem hd;exact dlt_mono h d (lts_get hr hi)
 |_=>exact hr
structure PFm (h:List Row) (q:Nat) (m:HM) (c x:Nat) (w j n:Int) (H:List Row):Prop where
 pre:H.take h.length=h.set q m.row
 hc:H[c]?=some (.cells [.v (.int .u64 w),.v (.bool true)])
 hx:H[x]?=some (.cells [.v (.int .i64 j),.v (.int .i64 n)])
 lc:h.length≤c
 lx:h.length≤x
 ne:c≠x
 low:∀row∈H.drop h.length,Row.low 0 row=true
section
variable {h:List Row} {q:Nat} {m:HM} {c x:Nat} {w j n:Int} {H:List Row}
theorem PFm.len (hF:PFm h q m c x w j n H):h.length≤H.length:=Nat.le_of_lt (Nat.lt_of_le_of_lt hF.lc (lt_of_get hF.hc))
theorem PFm.get (hF:PFm h q m c x w j n H) {i:Nat} (hi:i <h.length):H[i]?=(h.set q m.row)[i]?:=by
 rw[←hF.pre,List.getElem?_take,if_pos hi]
theorem PFm.app (hF:PFm h q m c x w j n H) {row:Row} (hl:Row.low 0 row=true):PFm h q m c x w j n (H++[row]) where
 pre:=by rw[List.take_append_of_le_length hF.len];exact hF.pre
 hc:=get_old _ hF.hc
 hx:=get_old _ hF.hx
 lc:=hF.lc
 lx:=hF.lx
 ne:=hF.ne
 low:=by
  rw[List.drop_append_of_le_length hF.len];intro row hr;rcases List.mem_append.1 hr with hr|hr
  ·exact hF.low row hr
  ·simp at hr;subst hr;exact hl
theorem PFm.all (hF:PFm h q m c x w j n H) (hl:∀row∈h,Row.low h.length row=true):∀row∈H,Row.low H.length row=true:=by
 intro row hr;rw[←List.take_append_drop h.length H]at hr;rcases List.mem_append.1 hr with hr|hr
 ·rw[hF.pre]at hr;rcases List.mem_or_eq_of_mem_set hr with hr|rfl
  ·exact Row.low_mono hF.len (hl row hr)
  ·rfl
 ·exact Row.low_mono (Nat.zero_le _) (hF.low row hr)
end
structure KM where
 E:List (Int×List Int)
 st:List Nat
 ck:Nat
def entK (x:Int×List Int):V×V:=(.int .i64 x.1,nums .u8 x.2)
def KM.row (m:KM):Row:= .map (m.E.map entK) m.st m.ck
def KM.set (m:KM) (k:Int) (v:List Int):KM:=
 match m.E.findIdx? λx=>x.1==k with
 |none=>⟨m.E++[(k,v)],m.st++[m.ck],m.ck+1⟩
 |some i=>⟨m.E.set i (k,v),m.st,m.ck⟩
end Go.Va
