/- Laws, part 40. No condition. -/
import Derived.Test.YtbonllhdlmegeaaGreatDoorL39
set_option linter.all false
set_option maxRecDepth 100000
set_option maxHeartbeats 4000000
noncomputable section
namespace Go.Va
open Go.Proofs
def cmpP:List Int→List Int→Int
 |x::xs,y::ys=>if x <y then -1 else if y <x then 1 else cmpP xs ys
 |_,_=>0
theorem cmpP_cons {a b:Int} {xs ys:List Int}:cmpP (a::xs) (b::ys)=0↔a=b∧cmpP xs ys=0:=by
 rw[cmpP];by_cases h1:a <b
 ·rw[if_pos h1];omega
 ·rw[if_neg h1];by_cases h2:b <a
  ·rw[if_pos h2];omega
  ·rw[if_neg h2];have:a=b:=by omega
   simp[this]
theorem cmpP0:∀ {xs ys:List Int},xs.length=ys.length→(cmpP xs ys=0↔xs=ys)
 |[],[],_=>by simp[cmpP]
 |[],_::_,h=>by simp at h
 |_::_,[],h=>by simp at h
 |x::xs,y::ys,h=>by
  rw[cmpP_cons,cmpP0 (by simpa using h),List.cons.injEq]
theorem b01_inj {a b:Bool}:b01 a=b01 b↔a=b:=by cases a<;>cases b<;>simp[b01]
theorem ordI_inj {x y:Ivl}:ordI x=ordI y↔x=y:=by
 obtain⟨a,b,c,d,e,f,g,h⟩:=x;obtain⟨a',b',c',d',e',f',g',h'⟩:=y;simp[ordI,b01_inj]
 constructor
 ·rintro⟨h1,h2,h3,h4,h5,h6,h7,h8⟩;simp[*]
 ·rintro⟨h1,h2,h3,h4,h5,h6,h7,h8⟩;simp[*]
theorem flat_ordI:∀ {a b:List Ivl},a.length=b.length→(a.flatMap ordI=b.flatMap ordI↔a=b)
 |[],[],_=>by simp
 |[],_::_,h=>by simp at h
 |_::_,[],h=>by simp at h
 |x::xs,y::ys,h=>by
  have ih:=flat_ordI (a:=xs) (b:=ys) (by simpa using h);rw[List.flatMap_cons,List.flatMap_cons,List.cons.injEq,←ih,←ordI_inj]
  constructor
  ·intro h;exact List.append_inj h rfl
  ·rintro⟨h1,h2⟩;rw[h1,h2]
theorem cmpP_ord {f g:F}:cmpP (ordF f) (ordF g)=0↔f.op=g.op∧f.n=g.n∧f.ins=g.ins∧f.kids.length=g.kids.length:=by
 simp only[ordF,List.cons_append,List.nil_append,cmpP_cons]
 constructor
 ·rintro⟨h1,h2,h3,h4⟩;have hl:f.ins.length=g.ins.length:=by omega
  rw[cmpP0 (by rw[List.length_append,List.length_append,ordI_len,ordI_len,hl];rfl)]at h4;have h5:=List.append_inj h4 (by rw[ordI_len,ordI_len,hl]);refine⟨h1,h2,(flat_ordI hl).1 h5.1,by have:=h5.2;simp at this;omega⟩
 ·rintro⟨h1,h2,h3,h4⟩;refine⟨h1,h2,by rw[h3],?_⟩;rw[h3,cmpP0 (by simp),h4]
theorem cmpP_both {a b:List Int} {k:Nat} {x y:Int} (hx:a[k]?=some x) (hy:b[k]?=some y):
  cmpP (a.drop k) (b.drop k)=if x <y then -1 else if y <x then 1 else cmpP (a.drop (k+1)) (b.drop (k+1)):=by
 obtain⟨h,rfl⟩:=List.getElem?_eq_some_iff.1 hx;obtain⟨h',rfl⟩:=List.getElem?_eq_some_iff.1 hy;rw[List.drop_eq_getElem_cons h,List.drop_eq_getElem_cons h'];rfl
theorem cmpP_end {a b:List Int} {k:Nat} (h:a.length≤k∨b.length≤k):cmpP (a.drop k) (b.drop k)=0:=by
 rcases h with h|h
 ·rw[List.drop_eq_nil_of_le h];rfl
 ·rw[List.drop_eq_nil_of_le h];cases a.drop k<;>rfl
def cmpK {α:Type} (f:α→α→Int):List α→List α→Int
 |x::xs,y::ys=>if f x y=0 then cmpK f xs ys else f x y
 |_,_=>0
theorem cmpK0 {α:Type} {f:α→α→Int}:∀ {xs ys:List α},xs.length=ys.length→(∀x∈xs,∀y∈ys,(f x y=0↔x=y))→(cmpK f xs ys=0↔xs=ys)
 |[],[],_,_=>by simp[cmpK]
 |[],_::_,h,_=>by simp at h
 |_::_,[],h,_=>by simp at h
 |x::xs,y::ys,h,hf=>by
  have h1:=hf x List.mem_cons_self y List.mem_cons_self;have ih:=cmpK0 (f:=f) (xs:=xs) (ys:=ys) (by simpa using h) λa ha b hb=>hf a (List.mem_cons_of_mem _ ha) b (List.mem_cons_of_mem _ hb);unfold cmpK;by_cases h0:f x y=0
  ·rw[if_pos h0,ih];simp[h1.1 h0]
  ·rw[if_neg h0]
   constructor
   ·intro h;exact absurd h h0
   ·intro h;simp only[List.cons.injEq]at h;exact absurd (h1.2 h.1) h0
theorem cmpK_both {α:Type} {f:α→α→Int} {a b:List α} {k:Nat} {x y:α} (hx:a[k]?=some x) (hy:b[k]?=some y):
  cmpK f (a.drop k) (b.drop k)=if f x y=0 then cmpK f (a.drop (k+1)) (b.drop (k+1)) else f x y:=by
 obtain⟨h,rfl⟩:=List.getElem?_eq_some_iff.1 hx;obtain⟨h',rfl⟩:=List.getElem?_eq_some_iff.1 hy;rw[List.drop_eq_getElem_cons h,List.drop_eq_getElem_cons h'];rfl
theorem cmpK_end {α:Type} {f:α→α→Int} {a b:List α}:cmpK f (a.drop a.length) (b.drop a.length)=0:=by
 rw[List.drop_eq_nil_of_le (Nat.le_refl _)];cases b.drop a.length<;>rfl
noncomputable instance:DecidableEq F:=λ_ _=>Classical.propDecidable _
noncomputable instance:DecidableEq Clm:=λ_ _=>Classical.propDecidable _
noncomputable instance:DecidableEq Rgt:=λ_ _=>Classical.propDecidable _
theorem l127 (G:F→F→Int) (op n op' n':Int) (ins ins':List Ivl) (kids kids':List F) (hle:kids.length≤2^20) (hkl:kids.length=kids'.length) (hG:∀x∈kids,∀y∈kids',PSp Tryz.prog GLx 127 [x.V,y.V] [.int .i64 (G x y)]∧(G x y=0↔x=y)) (Q:AExit→St→Prop)
  (hQ1:cmpK G kids kids'≠0→Q .ret ⟨[(4,.v (.int .i64 (cmpK G kids kids')))],[.cells [.v (.int .i64 op),.v (.int .i64 n),.v (.list (ins.map Ivl.V)),.v (.list (kids.map F.V))],.cells [.v (.int .i64 op'),.v (.int .i64 n'),.v (.list (ins'.map Ivl.V)),.v (.list (kids'.map F.V))]]⟩)
  (hQ2:cmpK G kids kids'=0→∀e,Q (.exit 2) ⟨e,[.cells [.v (.int .i64 op),.v (.int .i64 n),.v (.list (ins.map Ivl.V)),.v (.list (kids.map F.V))],.cells [.v (.int .i64 op'),.v (.int .i64 n'),.v (.list (ins'.map Ivl.V)),.v (.list (kids'.map F.V))]]⟩):
  awp Tryz.prog GLx (.loop (lG 127 1)) Q ⟨[(2,.ref 0 0),(3,.ref 1 0),(8,.v (.int .i64 0))],[.cells [.v (.int .i64 op),.v (.int .i64 n),.v (.list (ins.map Ivl.V)),.v (.list (kids.map F.V))],.cells [.v (.int .i64 op'),.v (.int .i64 n'),.v (.list (ins'.map Ivl.V)),.v (.list (kids'.map F.V))]]⟩:=by
 obtain⟨R,hR⟩:∃R,cmpK G kids kids'=R:=⟨_,rfl⟩;rw[hR]at hQ1 hQ2;refine awp_loop_I kids.length (λk s=>s=⟨[(2,.ref 0 0),(3,.ref 1 0),(8,.v (.int .i64 k))],
  [.cells [.v (.int .i64 op),.v (.int .i64 n),.v (.list (ins.map Ivl.V)),.v (.list (kids.map F.V))],.cells [.v (.int .i64 op'),.v (.int .i64 n'),.v (.list (ins'.map Ivl.V)),.v (.list (kids'.map F.V))]]⟩∧cmpK G (kids.drop k) (kids'.drop k)=R) ⟨by simp,by simpa using hR⟩ ?_
 rintro k s hk ⟨rfl,hI⟩;simp only[Zgl 127 1,awp_seq,awp_reg,awp_block,awp_cond,Zge 127 11];by_cases hkl1:k <kids.length
 ·have h2:(k:Int) <kids.length:=by omega
  obtain⟨x,hx⟩:∃x,kids[k]?=some x:=⟨_,List.getElem?_eq_getElem hkl1⟩;obtain⟨y,hy⟩:∃y,kids'[k]?=some y:=⟨_,List.getElem?_eq_getElem (by omega)⟩;have w1:IntKind.i64.wrap ((k:Int)+1)=k+1:=wrap_i64 (by omega) (by omega);have q:=(hG x (List.mem_of_getElem? hx) y (List.mem_of_getElem? hy)).1;rw[cmpK_both hx hy]at hI;obtain⟨r,hr⟩:∃r,G x y=r:=⟨_,rfl⟩;rw[hr]at hI q;have hxV:x.V= .agg [.int .i64 x.op,.int .i64 x.n,.list (x.ins.map Ivl.V),.list (x.kids.map F.V)]:=by
   obtain⟨op,n,ins,kids⟩:=x;exact F.V_eq ..
  have hyV:y.V= .agg [.int .i64 y.op,.int .i64 y.n,.list (y.ins.map Ivl.V),.list (y.kids.map F.V)]:=by
   obtain⟨op,n,ins,kids⟩:=y;exact F.V_eq ..
  rw[hxV,hyV]at q;simp[h2,awp_skip];simp only[awp_regD,Zge 127 13];simp[hx,hy,hxV,hyV];refine⟨_,_,⟨rfl,rfl⟩,_,q,?_⟩;simp only[Zge 127 14];simp;by_cases h0:r=0
  ·rw[if_pos h0]at hI;simp[h0,awp_skip,Zge 127 12,w1,hkl1,hI]
  ·rw[if_neg h0]at hI;subst hI;simp[h0,Zge 127 15,awp_ret];exact hQ1 h0
 ·have hk2:k=kids.length:=by omega
  subst hk2;rw[cmpK_end]at hI;simp[awp_exit];exact hQ2 hI.symm _
set_option maxHeartbeats 4000000 in
theorem c127 (f:F):∀g:F,f.brief→g.brief→∃c:Int,PSp Tryz.prog GLx 127 [f.V,g.V] [.int .i64 c]∧(c=0↔f=g):=by
 induction f using F.ind with
 |h op n ins kids ih=>
  intro g hf hg;obtain⟨op',n',ins',kids'⟩:=g;have hf0:=F.brief_top hf;have hg0:=F.brief_top hg;simp only[F.ins,F.kids]at hf0 hg0;obtain⟨G,hG⟩:∃G:F→F→Int,∀x∈kids,∀y∈kids',PSp Tryz.prog GLx 127 [x.V,y.V] [.int .i64 (G x y)]∧(G x y=0↔x=y):=by
   classical
   refine⟨λx y=>if h:x∈kids∧y∈kids' then Classical.choose (ih x h.1 y (F.brief_kid hf h.1) (F.brief_kid hg h.2)) else 0,λx hx y hy=>?_⟩;have h:x∈kids∧y∈kids':=⟨hx,hy⟩;simp only[h,and_self,dite_true];exact Classical.choose_spec (ih x h.1 y (F.brief_kid hf h.1) (F.brief_kid hg h.2))
  have q1:=(p336 (.mk op n ins kids) hf0.1).fsp;have q2:=(p336 (.mk op' n' ins' kids') hg0.1).fsp;have hlen:∀(o m:Int) (is:List Ivl) (ks:List F),is.length≤2^20→(ordF (.mk o m is ks)).length≤2^30:=λo m is ks h=>by
   have h1:=ordI_len is;simp only[ordF,List.length_append,F.ins,h1,List.length_cons,List.length_nil];omega
  have hL:=hlen op n ins kids hf0.1;have hM:=hlen op' n' ins' kids' hg0.1;have e0:=cmpP_ord (f:= .mk op n ins kids) (g:= .mk op' n' ins' kids');simp only[F.op,F.n,F.ins,F.kids]at e0;generalize ordF (.mk op n ins kids)=L at*;generalize ordF (.mk op' n' ins' kids')=M at*;have fin:PSp Tryz.prog GLx 127 [(F.mk op n ins kids).V,(F.mk op' n' ins' kids').V] [.int .i64 (if cmpP L M=0 then cmpK G kids kids' else cmpP L M)]:=by
   have hkl:cmpP L M=0→kids.length=kids'.length:=λh=>(e0.1 h).2.2.2;obtain⟨R,hR⟩:∃R,(if cmpP L M=0 then cmpK G kids kids' else cmpP L M)=R:=⟨_,rfl⟩;rw[hR];clear ih e0 hlen;refine psp_of_awp (Zkk 127) rfl ?_;simp only[F.V_eq,nums]at*;simp at q1 q2;simp only[Zga 127,awp_seq,awp_reg,awp_block,Zge 127 0,Zge 127 1,entry];simp;refine⟨_,_,q1 _,?_⟩;simp only[Zge 127 2];simp;refine⟨_,_,q2 _,?_⟩;simp only[Zge 127 3];simp;refine awp_loop_I (min L.length M.length) (λk s=>s=⟨[(2,.ref 0 0),(3,.ref 1 0),(5,.v (.list (L.map (.int .i64)))),(6,.v (.list (M.map (.int .i64)))),(7,.v (.int .i64 k))],
    [.cells [.v (.int .i64 op),.v (.int .i64 n),.v (.list (ins.map Ivl.V)),.v (.list (kids.map F.V))],.cells [.v (.int .i64 op'),.v (.int .i64 n'),.v (.list (ins'.map Ivl.V)),.v (.list (kids'.map F.V))]]⟩∧cmpP (L.drop k) (M.drop k)=cmpP L M) ⟨by simp,by simp⟩ ?_
   rintro k s hk ⟨rfl,hI⟩;simp only[Zgl 127 0,awp_seq,awp_reg,awp_block,awp_cond,Zge 127 4];by_cases hkL:k <L.length
   ·have h2:(k:Int) <L.length:=by omega
    by_cases hkM:k <M.length
    ·have h3:(k:Int) <M.length:=by omega
     obtain⟨x,hx⟩:∃x,L[k]?=some x:=⟨_,List.getElem?_eq_getElem hkL⟩;obtain⟨y,hy⟩:∃y,M[k]?=some y:=⟨_,List.getElem?_eq_getElem hkM⟩;have w1:IntKind.i64.wrap ((k:Int)+1)=k+1:=wrap_i64 (by omega) (by omega);rw[cmpP_both hx hy]at hI;simp[h2,h3,awp_skip];simp only[awp_regD,Zge 127 6];simp[hx,hy];by_cases h4:x <y
     ·rw[if_pos h4]at hI;have hz:¬cmpP L M=0:=by omega
      rw[if_neg hz,←hI]at hR;subst hR;simp[h4,Zge 127 7,awp_ret,Zgr 127]
     ·rw[if_neg h4]at hI;simp[h4,awp_skip];simp only[Zge 127 8];simp[hx,hy];by_cases h5:y <x
      ·rw[if_pos h5]at hI;have hz:¬cmpP L M=0:=by omega
       rw[if_neg hz,←hI]at hR;subst hR;simp[h5,Zge 127 9,awp_ret,Zgr 127]
      ·rw[if_neg h5]at hI;simp[h5,awp_skip,Zge 127 5,w1,hI];omega
    ·have h3:¬(k:Int) <M.length:=by omega
     rw[cmpP_end (.inr (by omega))]at hI;rw[if_pos hI.symm]at hR;have hlp:=λQ=>l127 G op n op' n' ins ins' kids kids' hf0.2 (hkl hI.symm) hG Q;rw[hR]at hlp;simp[h2,h3,awp_exit,Zge 127 10];refine hlp _ (λh0=>?_) (λh0 e=>?_)
     ·simp[Zgr 127]
     ·simp[Zge 127 16,awp_ret,Zgr 127,h0]
   ·have h2:¬(k:Int) <L.length:=by omega
    rw[cmpP_end (.inl (by omega))]at hI;rw[if_pos hI.symm]at hR;have hlp:=λQ=>l127 G op n op' n' ins ins' kids kids' hf0.2 (hkl hI.symm) hG Q;rw[hR]at hlp;simp[h2,awp_exit,Zge 127 10];refine hlp _ (λh0=>?_) (λh0 e=>?_)
    ·simp[Zgr 127]
    ·simp[Zge 127 16,awp_ret,Zgr 127,h0]
  refine⟨_,fin,?_⟩;by_cases h0:cmpP L M=0
  ·rw[if_pos h0];obtain⟨h1,h2,h3,h4⟩:=e0.1 h0;rw[cmpK0 h4 λx hx y hy=>(hG x hx y hy).2,h1,h2,h3];simp
  ·rw[if_neg h0]
   constructor
   ·intro h;exact absurd h h0
   ·intro h;simp only[F.mk.injEq]at h;obtain⟨h1,h2,h3,h4⟩:=h;exact absurd (e0.2 ⟨h1,h2,h3,by rw[h4]⟩) h0
theorem c87 (f g:F) (hf:f.brief) (hg:g.brief):PSp Tryz.prog GLx 87 [f.V,g.V] [.bool (decide (f=g))]:=by
 obtain⟨c,hq,hc⟩:=c127 f g hf hg;have e:decide (f=g)=decide (c=0):=by simp only[hc]
 rw[e];refine psp_of_awp (Zkk 87) rfl ?_;have q:=hq.fsp;clear e hc hq;obtain⟨op,n,ins,kids⟩:=f;obtain⟨op',n',ins',kids'⟩:=g;simp only[F.V_eq]at*;simp at q;simp only[Zga 87,awp_seq,awp_reg,Zge 87 0,Zge 87 1,entry];simp;refine⟨_,_,q _,?_⟩;simp[awp_ret,Zgr 87];rw[Bool.eq_iff_iff];simp
theorem k38:chkF Tryz.prog GLx 38 2 (cT [0,0,0,0]) [.t 4]=true:=by kernel_rfl
theorem k40:chkF Tryz.prog GLx 40 2 (cT [0,0,0]) [.t 4]=true:=by kernel_rfl
theorem k41:chkF Tryz.prog GLx 41 2 (cT [0,0,0,0]) [.t 4]=true:=by kernel_rfl
theorem c38 (a b:List Dat) (hl:a.length≤2^40):PSp Tryz.prog GLx 38 [.list (a.map Dat.V),.list (b.map Dat.V)] [.bool (decide (a=b))]:=pTg fldsDat k38 a b hl
theorem c40 (a b:List Own) (hl:a.length≤2^40):PSp Tryz.prog GLx 40 [.list (a.map Own.V),.list (b.map Own.V)] [.bool (decide (a=b))]:=pTg fldsOwn k40 a b hl
theorem c41 (a b:List Lic) (hl:a.length≤2^40):PSp Tryz.prog GLx 41 [.list (a.map Lic.V),.list (b.map Lic.V)] [.bool (decide (a=b))]:=pTg fldsLic k41 a b hl
def Clm.brief (c:Clm):Prop:=c.refs.length≤2^40∧c.body.brief
theorem Clm.ext2 {x y:Clm} (h1:x.refs=y.refs) (h2:x.body=y.body):x=y:=by cases x;cases y;simp_all
set_option maxHeartbeats 4000000 in
theorem c37 (a b:List Clm) (hl:a.length≤2^40) (ha:∀c∈a,c.brief) (hb:∀c∈b,c.brief):PSp Tryz.prog GLx 37 [.list (a.map Clm.V),.list (b.map Clm.V)] [.bool (decide (a=b))]:=by
 refine psp_of_awp (Zkk 37) rfl ?_;simp only[Zga 37,awp_seq,awp_reg,awp_block,awp_cond,Zge 37 0,Zge 37 1,entry];simp;by_cases hab:a.length=b.length
 ·simp[hab,awp_skip,Zge 37 3];refine awp_loop_I b.length (λk s=>s=⟨[(0,.v (.list (a.map Clm.V))),(1,.v (.list (b.map Clm.V))),(5,.v (.int .i64 k))],[]⟩∧∀j <k,a[j]?=b[j]?) ⟨by simp,by omega⟩ ?_;rintro k s hk ⟨rfl,hI⟩;simp only[Zgl 37 0,awp_seq,awp_reg,awp_block,awp_cond,Zge 37 4];simp[hab];by_cases hkl:k <b.length
  ·obtain⟨x,hx⟩:∃x,a[k]?=some x:=⟨_,List.getElem?_eq_getElem (by omega)⟩;obtain⟨y,hy⟩:∃y,b[k]?=some y:=⟨_,List.getElem?_eq_getElem hkl⟩;have w1:IntKind.i64.wrap ((k:Int)+1)=k+1:=wrap_i64 (by omega) (by omega);have bx:=ha x (List.mem_of_getElem? hx);have by_:=hb y (List.mem_of_getElem? hy);have q1:=p82g x.refs y.refs bx.1;have q2:=c87 x.body y.body bx.2 by_.2;rw[F.V_flds,F.V_flds]at q2;simp only[nums]at q1;rw[if_pos (by omega),awp_skip];simp only[awp_regD,Zge 37 6];simp[hx,hy,Clm.V,nums];refine⟨_,_,⟨rfl,rfl⟩,_,q1,?_⟩;simp[hx,hy,Clm.V,nums];by_cases e1:x.refs=y.refs
   ·simp[e1,hx,hy,Clm.V,nums];refine⟨_,_,⟨rfl,rfl⟩,_,q2,?_⟩;by_cases e2:x.body=y.body
    ·simp[e2,awp_skip,Zge 37 5,w1,hkl];intro j hj;by_cases hj2:j <k
     ·exact hI j hj2
     ·have:j=k:=by omega
      subst this;rw[hx,hy,Clm.ext2 e1 e2]
    ·have hne:a≠b:=by
      intro h;subst h;rw[hx]at hy;simp at hy;exact e2 (by rw[hy])
     simp[e2,hne,Zge 37 7,awp_ret,Zgr 37]
   ·have hne:a≠b:=by
     intro h;subst h;rw[hx]at hy;simp at hy;exact e1 (by rw[hy])
    simp[e1,hne,Zge 37 7,awp_ret,Zgr 37]
  ·have hk2:k=b.length:=by omega
   subst hk2;rw[if_neg (by omega),awp_exit];simp[Zge 37 8,awp_ret,Zgr 37,list_same hab hI]
 ·have hne:a≠b:=λh=>hab (by rw[h]);have hab':¬(a.length:Int)=b.length:=by omega
  simp[hab',hne,Zge 37 2,awp_ret,Zgr 37]
theorem Rgt.sm.clms {r:Rgt} (h:r.sm):∀c∈r.claims,c.brief:=λc hc=>h.h2 c hc
theorem Rgt.ext8 {a b:Rgt}:a=b↔a.file=b.file∧a.state=b.state∧a.force=b.force∧a.claims=b.claims∧a.dates=b.dates∧a.bad=b.bad∧a.owners=b.owners∧a.lics=b.lics:=by
 cases a;cases b;simp
set_option maxHeartbeats 8000000 in
theorem c10 (a b:Rgt) (ha:a.sm) (hb:b.sm):PSp Tryz.prog GLx 10 [a.V,b.V] [.bool (decide (a=b))]:=by
 have a1:=ha.h1;have a3:=ha.h3;have a5:=ha.h5;have a6:=ha.h6;have q1:=(c37 a.claims b.claims (by omega) ha.clms hb.clms).fsp;have q2:=(c38 a.dates b.dates (by omega)).fsp;have q3:=(p82g a.bad b.bad ha.h4).fsp;have q4:=(c40 a.owners b.owners (by omega)).fsp;have q5:=(c41 a.lics b.lics (by omega)).fsp;obtain⟨R,hR⟩:∃R,decide (a=b)=R:=⟨_,rfl⟩;rw[hR];have e:=Rgt.ext8 (a:=a) (b:=b);refine psp_of_awp (Zkk 10) rfl ?_;simp[nums]at q1 q2 q3 q4 q5;simp only[Zga 10,awp_seq,awp_reg,awp_cond,Zge 10 0,entry,Rgt.V,Rgt.cs,nums];simp;simp only[Zge 10 1];have no:∀ {α:Type} (f:Rgt→α),f a≠f b→R=false:=λf h=>by rw[←hR];exact decide_eq_false λh2=>h (congrArg f h2)
 by_cases h1:a.file=b.file
 ·by_cases h2:a.state=b.state
  ·by_cases h3:a.force=b.force
   ·simp[h1,h2,h3];refine⟨_,_,q1 _,?_⟩;by_cases h4:a.claims=b.claims
    ·simp[h4,awp_skip];simp only[Zge 10 3];simp;refine⟨_,_,q2 _,?_⟩;by_cases h5:a.dates=b.dates
     ·simp[h5];refine⟨_,_,q3 _,?_⟩;by_cases h6:a.bad=b.bad
      ·simp[h6];refine⟨_,_,q4 _,?_⟩;by_cases h7:a.owners=b.owners
       ·simp[h7];refine⟨_,_,q5 _,?_⟩;have hE:R=decide (a.lics=b.lics):=by
         rw[←hR];simp only[e,h1,h2,h3,h4,h5,h6,h7,true_and]
        rw[hE];simp[awp_ret,Zgr 10]
       ·rw[no Rgt.owners h7];simp[h7,awp_ret,Zgr 10]
      ·rw[no Rgt.bad h6];simp[h6,awp_ret,Zgr 10]
     ·rw[no Rgt.dates h5];simp[h5,awp_ret,Zgr 10]
    ·rw[no Rgt.claims h4];simp[h4,Zge 10 2,awp_ret,Zgr 10]
   ·rw[no Rgt.force h3];simp[h1,h2,h3,Zge 10 2,awp_ret,Zgr 10]
  ·rw[no Rgt.state h2];simp[h1,h2,Zge 10 2,awp_ret,Zgr 10]
 ·rw[no Rgt.file h1];simp[h1,Zge 10 2,awp_ret,Zgr 10]
theorem c32 (x y:Clm) (hx:x.brief) (hy:y.brief):PSp Tryz.prog GLx 32 [x.V,y.V] [.bool (decide (x=y))]:=by
 obtain⟨c,hq,hc⟩:=c469 x.body y.body hx.2 hy.2;have q1:=p92 x.refs y.refs hx.1;have e:(x=y)↔x.refs=y.refs∧c=0:=by
  rw[hc];exact⟨λh=>by subst h;exact⟨rfl,rfl⟩,λh=>Clm.ext2 h.1 h.2⟩
 obtain⟨R,hR⟩:∃R,decide (x=y)=R:=⟨_,rfl⟩;rw[hR];refine psp_of_awp (Zkk 32) rfl ?_;rw[F.V_flds,F.V_flds]at hq;have q2:=hq;clear hc hq;simp only[nums]at q1;simp only[Zga 32,awp_seq,awp_reg,Zge 32 0,entry,Clm.V,nums];simp;simp only[Zge 32 1];simp;refine⟨_,_,q1.fsp _,?_⟩;by_cases e1:x.refs=y.refs
 ·simp[e1];refine⟨_,_,q2.fsp _,?_⟩;have:R=decide (c=0):=by rw[←hR];simp only[e,e1,true_and]
  rw[this];simp[awp_ret,Zgr 32];rw[Bool.eq_iff_iff];simp
 ·have:R=false:=by rw[←hR];simp only[e,e1,false_and];rfl
  rw[this];simp[e1,awp_ret,Zgr 32]
set_option maxHeartbeats 4000000 in
theorem c31 (a b:List Clm) (hl:a.length≤2^40) (ha:∀c∈a,c.brief) (hb:∀c∈b,c.brief):PSp Tryz.prog GLx 31 [.list (a.map Clm.V),.list (b.map Clm.V),.func 32 []] [.bool (decide (a=b))]:=by
 refine psp_of_awp (Zkk 31) rfl ?_;simp only[Zga 31,awp_seq,awp_reg,awp_block,awp_cond,Zge 31 0,Zge 31 1,entry];simp;by_cases hab:a.length=b.length
 ·simp[hab,awp_skip,Zge 31 3];refine awp_loop_I b.length (λk s=>∃J,s=⟨[(1,.v (.list (b.map Clm.V))),(2,.v (.func 32 [])),(15,.v (.list (a.map Clm.V))),(16,.v (.int .i64 b.length)),(17,.v (.int .i64 k))],J⟩∧∀j <k,a[j]?=b[j]?) ⟨[],by simp,by omega⟩ ?_;rintro k s hk ⟨J,rfl,hI⟩;simp only[Zgl 31 0,awp_seq,awp_reg,awp_block,awp_cond,Zge 31 4];simp;by_cases hkl:k <b.length
  ·obtain⟨x,hx⟩:∃x,a[k]?=some x:=⟨_,List.getElem?_eq_getElem (by omega)⟩;obtain⟨y,hy⟩:∃y,b[k]?=some y:=⟨_,List.getElem?_eq_getElem hkl⟩;have w1:IntKind.i64.wrap ((k:Int)+1)=k+1:=wrap_i64 (by omega) (by omega);have q:=(c32 x y (ha x (List.mem_of_getElem? hx)) (hb y (List.mem_of_getElem? hy))).fsp;simp only[Clm.V,nums]at q;simp at q;rw[if_pos (by omega),awp_skip];simp only[Zge 31 5];simp[hx,Clm.V,nums,putL];simp only[Zge 31 6];simp[hy,Clm.V,nums,putL];simp only[Zge 31 7];simp;refine⟨_,_,q _,?_⟩;by_cases e1:x=y
   ·subst e1;simp[awp_skip,Zge 31 9,w1,hkl];intro j hj;by_cases hj2:j <k
    ·exact hI j hj2
    ·have:j=k:=by omega
     subst this;rw[hx,hy]
   ·have hne:a≠b:=by
     intro h;subst h;rw[hx]at hy;simp at hy;exact e1 hy
    simp[e1,hne,Zge 31 8,awp_ret,Zgr 31]
  ·have hk2:k=b.length:=by omega
   subst hk2;rw[if_neg (by omega),awp_exit];simp[Zge 31 10,awp_ret,Zgr 31,list_same hab hI]
 ·have hne:a≠b:=λh=>hab (by rw[h]);have hab':¬(a.length:Int)=b.length:=by omega
  simp[hab',hne,Zge 31 2,awp_ret,Zgr 31]
set_option maxHeartbeats 8000000 in
theorem c9 (a b:Rgt) (ha:a.sm) (hb:b.sm):PSp Tryz.prog GLx 9 [a.V,b.V] [.bool (decide (a=b))]:=by
 have a1:=ha.h1;have a3:=ha.h3;have a5:=ha.h5;have a6:=ha.h6;have q1:=(c31 a.claims b.claims (by omega) ha.clms hb.clms).fsp;have q2:=(c33 a.dates b.dates (by omega)).fsp;have q3:=(p92 a.bad b.bad ha.h4).fsp;have q4:=(c35 a.owners b.owners (by omega)).fsp;have q5:=(c36 a.lics b.lics (by omega)).fsp;obtain⟨R,hR⟩:∃R,decide (a=b)=R:=⟨_,rfl⟩;rw[hR];have e:=Rgt.ext8 (a:=a) (b:=b);refine psp_of_awp (Zkk 9) rfl ?_;simp[nums]at q1 q2 q3 q4 q5;simp only[Zga 9,awp_seq,awp_reg,Zge 9 0,entry,Rgt.V,Rgt.cs,nums];simp;simp only[Zge 9 1];have no:∀ {α:Type} (f:Rgt→α),f a≠f b→R=false:=λf h=>by rw[←hR];exact decide_eq_false λh2=>h (congrArg f h2)
 by_cases h1:a.file=b.file
 ·by_cases h2:a.state=b.state
  ·by_cases h3:a.force=b.force
   ·simp[h1,h2,h3];refine⟨_,_,q1 _,?_⟩;by_cases h4:a.claims=b.claims
    ·simp[h4];refine⟨_,_,q2 _,?_⟩;by_cases h5:a.dates=b.dates
     ·simp[h5];refine⟨_,_,q3 _,?_⟩;by_cases h6:a.bad=b.bad
      ·simp[h6];refine⟨_,_,q4 _,?_⟩;by_cases h7:a.owners=b.owners
       ·simp[h7];refine⟨_,_,q5 _,?_⟩;have hE:R=decide (a.lics=b.lics):=by
         rw[←hR];simp only[e,h1,h2,h3,h4,h5,h6,h7,true_and]
        rw[hE];simp[awp_ret,Zgr 9]
       ·rw[no Rgt.owners h7];simp[h7,awp_ret,Zgr 9]
      ·rw[no Rgt.bad h6];simp[h6,awp_ret,Zgr 9]
     ·rw[no Rgt.dates h5];simp[h5,awp_ret,Zgr 9]
    ·rw[no Rgt.claims h4];simp[h4,awp_ret,Zgr 9]
   ·rw[no Rgt.force h3];simp[h1,h2,h3,awp_ret,Zgr 9]
  ·rw[no Rgt.state h2];simp[h1,h2,awp_ret,Zgr 9]
 ·rw[no Rgt.file h1];simp[h1,awp_ret,Zgr 9]
end Go.Va
