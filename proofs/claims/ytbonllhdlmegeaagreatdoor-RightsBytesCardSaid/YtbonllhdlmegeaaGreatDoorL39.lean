/- Laws, part 39. No condition. -/
import Derived.Shelf.Spec.SlicesGrow
import Derived.Test.YtbonllhdlmegeaaGreatDoorL12
import Derived.Test.YtbonllhdlmegeaaGreatDoorL37
import Derived.Test.YtbonllhdlmegeaaGreatDoorL38
set_option linter.all false
set_option maxRecDepth 100000
set_option maxHeartbeats 4000000
noncomputable section
namespace Go.Va
open Go.Proofs
theorem Low.apps {h X:List Row} (hl:Low h) (hx:∀row∈X,Row.low (h.length+X.length) row=true):Low (h++X):=by
 intro row hrow;rw[List.length_append];rcases List.mem_append.1 hrow with h1|h1
 ·exact low_mono (Nat.le_add_right _ _) row (hl row h1)
 ·exact hx row h1
section
variable {ps:List V} {bs:List Bool} {H:List Row} {a b x:Nat}
end
open Go.Proofs
theorem awp_range_at {P:Program} {GL:Globals} {q:Opd} {ps:List Nat} {asg body:AC} {Q:AExit→St→Prop} {s:St} (n:Nat) (hn:s.h.length=n) (fid:Nat) (caps rets:List D) (h1 h':List Row) (tag:Tag)
  (hq:fnOf (q.ev s.e)=some (fid,caps)) (hh:s.h++[recRow P GL .ready (cpE s.e) ps asg body]=h1) (hf:FSp P GL fid (.yld n::caps) h1 rets h')
  (hr:h'[n]?=some (recRow P GL tag (cpE s.e) ps asg body)) (he:rangeEnd Q ⟨s.e,h'.set n .dead⟩ tag):awp P GL (.rangeF q ps asg body) Q s:=by
 subst hn;exact awp_range_of fid caps rets h1 h' tag hq hh hf hr he
def okC (nc:Int) (g:F):Bool:= !(decide (g.op=1)&&decide (nc≤g.n))
section
variable {ps:List V} {bs:List Bool} (h:List Row) (x:Nat) (A B C:Row) (e0:Env)
end
theorem p63 (l:List Clm) (hl:∀c∈l,c.ok) (hn:l.length≤2^40) (hz:clmsE l=0) (i:Nat) (hi:i <l.length):PSp Tryz.prog GLx 148 [.list (l.map Clm.V),.int .i64 i] [.int .i64 0]:=by
 refine psp_of_awp (Zkk 148) rfl ?_;have q:=(p138 l hl hn).fsp;rw[hz]at q;have h1:¬(i:Int) <0:=by omega
 have h2:¬((l.length:Int)≤i):=by omega
 have h3:¬(l.length≤i):=by omega
 simp only[Zga 148,awp_seq,awp_reg,awp_cond,Zge 148 0,Zge 148 1,entry];simp at q ⊢;refine⟨_,_,q _,?_⟩;simp[awp_skip,Zge 148 2,Zge 148 4,h1,h2,Zge 148 6,awp_ret,Zgr 148]
def partsF (f:F):List F:=if f.op=4 then f.kids else [f]
theorem p141 (f:F):PSp Tryz.prog GLx 319 [f.V] [.list ((partsF f).map F.V)]:=by
 refine psp_of_awp (Zkk 319) rfl ?_;unfold partsF;obtain⟨op,n,ins,kids⟩:=f;by_cases h:op=4<;>simp[Zga 319,awp,Zge 319 0,Zge 319 1,Zge 319 2,Zge 319 3,Zgr 319,entry,F.V_eq,h,F.op,F.kids]
mutual
def F.tops:F→List F| .mk op n ins kids=>if op=5 then F.topss kids else [.mk op n ins kids]
def F.topss:List F→List F|[]=>[]|k::ks=>k.tops++F.topss ks
end
theorem topss_eq:∀l,F.topss l=l.flatMap F.tops
 |[]=>rfl
 |k::ks=>by simp[F.topss,topss_eq ks]
theorem F.tops_eq (op n:Int) (ins:List Ivl) (kids:List F):(F.mk op n ins kids).tops=if op=5 then kids.flatMap F.tops else [.mk op n ins kids]:=by
 rw[F.tops,topss_eq]
theorem p139 (f:F) (h:List Row):FSp Tryz.prog GLx 317 [.v f.V] h [.func 387 [.ref h.length 0]] (h++[.cells f.cells]):=by
 refine fsp_of_awp (Zkk 317) rfl ?_;obtain⟨op,n,ins,kids⟩:=f;simp[Zga 317,awp,Zge 317 0,Zge 317 1,Zgr 317,entryD,F.V_eq,F.cells,F.op,F.n,F.ins,F.kids,D.vs?,D.v?]
theorem p244 (x:F) (c:Nat) (h:List Row) (a:Nat) (hc:h[c]?=some (.cells [.func 388 [.ref a 0,.ref c 0]])) (b:Bool) (h':List Row)
  (hp:FSp Tryz.prog GLx 388 [.v x.V,.ref a 0,.ref c 0] (h++[.cells x.cells]) [.v (.bool b)] h'):FSp Tryz.prog GLx 389 [.v x.V,.ref c 0] h [.v (.bool (!b))] h':=by
 refine fsp_of_awp (Zkk 389) rfl ?_;have hc2:=get_old [.cells x.cells] hc;obtain⟨xo,xn,xi,xk⟩:=x;simp only[F.cells,F.op,F.n,F.ins,F.kids,F.V_eq]at*;simp only[Zga 389,awp_seq,awp_reg,Zge 389 0,Zge 389 1,entryD];simp[hc2,D.vs?,D.v?];refine⟨_,_,hp,?_⟩;simp[awp_ret,Zgr 389]
theorem l243 (r:Nat) (a c:Nat) (kids:List F) (hk:∀k∈kids,∀X b X' J i j,a=X.length+i→c=X.length+j→RunY Tryz.prog GLx r (k.tops.map F.V) X b X'→J[i]?=some (.cells [.yld r])→J[j]?=some (.cells [.func 388 [.ref a 0,.ref c 0]])→
   ∃J',FSp Tryz.prog GLx 388 [.v k.V,.ref a 0,.ref c 0] (X++J) [.v (.bool b)] (X'++(J++J'))):
  ∀(X:List Row) (b:Bool) (X':List Row) (J:List Row) (i j:Nat),a=X.length+i→c=X.length+j→RunY Tryz.prog GLx r ((kids.flatMap F.tops).map F.V) X b X'→J[i]?=some (.cells [.yld r])→J[j]?=some (.cells [.func 388 [.ref a 0,.ref c 0]])→
   ∃J' q,IdxR Tryz.prog GLx 389 [.ref c 0] (kids.map F.V) (X++J) q (X'++(J++J'))∧q.isSome= !b:=by
 induction kids with
 |nil=>
  rintro X b X' J i j ha hc ⟨rfl,rfl⟩ hi hj;exact⟨[],none,⟨rfl,by simp⟩,rfl⟩
 |cons k ks ih=>
  intro X b X' J i j ha hc hr hi hj;rw[List.flatMap_cons,List.map_append]at hr;obtain⟨b1,X1,h1,h2⟩:=hr.app;have hl:=h1.len;obtain⟨J1,hp⟩:=hk k (by simp) X b1 X1 (J++[.cells k.cells]) i j ha hc h1 (get_old _ hi) (get_old _ hj);have hcc:(X++J)[c]?=some (.cells [.func 388 [.ref a 0,.ref c 0]]):=by rw[get_appk X J c j hc];exact hj
  rw[←List.append_assoc]at hp;have hq:=p244 k c (X++J) a hcc b1 _ hp;cases b1 with
  |true=>
   simp only[if_true]at h2;obtain⟨J2,q,h3,h4⟩:=ih (λx hx=>hk x (by simp[hx])) X1 b X' (J++[.cells k.cells]++J1) i j (by rw[hl];exact ha) (by rw[hl];exact hc) h2 (get_old _ (get_old _ hi)) (get_old _ (get_old _ hj));refine⟨[.cells k.cells]++J1++J2,q.map (· +1),⟨false,_,hq,?_⟩,by cases q<;>simpa using h4⟩
   simp only[Bool.false_eq_true,if_false];refine⟨q,?_,rfl⟩;simpa[List.append_assoc]using h3
  |false=>
   simp only[Bool.false_eq_true,if_false]at h2;obtain⟨rfl,rfl⟩:=h2;refine⟨[.cells k.cells]++J1,some 0,⟨true,_,hq,?_⟩,rfl⟩;simp[List.append_assoc]
theorem p243 (r:Nat) (a c:Nat):∀f:F,f.ok→∀X b X' J i j,a=X.length+i→c=X.length+j→RunY Tryz.prog GLx r (f.tops.map F.V) X b X'→J[i]?=some (.cells [.yld r])→J[j]?=some (.cells [.func 388 [.ref a 0,.ref c 0]])→
   ∃J',FSp Tryz.prog GLx 388 [.v f.V,.ref a 0,.ref c 0] (X++J) [.v (.bool b)] (X'++(J++J')):=by
 refine F.ind λop n ins kids ih hok=>?_;intro X b X' J i j ha hc hr hi hj;have hsz:=hok.2;rw[F.size_eq]at hsz;have hkl:=F.kids_len kids;rw[F.tops_eq]at hr;have ga:(X++(J++[.cells (F.mk op n ins kids).cells]))[a]?=some (.cells [.yld r]):=by rw[get_appk X _ a i ha];exact get_old _ hi
 have gf:(X++(J++[.cells (F.mk op n ins kids).cells]))[X.length+J.length]?=some (.cells (F.mk op n ins kids).cells):=by rw[get_appk X _ _ J.length rfl];simp
 have hkids:∀x∈kids.map F.V,∃cs,x=V.agg cs∧cs.length=4:=by
  intro x hx;obtain⟨k,_,rfl⟩:=List.mem_map.1 hx;obtain⟨ko,kn,ki,kk⟩:=k;exact⟨_,F.V_eq ..,rfl⟩
 by_cases h5:op=5
 ·rw[if_pos h5]at hr;obtain⟨J3,q,hidx,hq⟩:=l243 r a c kids (λk hk=>ih k hk (F.ok_kid hok hk)) X b X' (J++[.cells (F.mk op n ins kids).cells]) i j ha hc hr (get_old _ hi) (get_old _ hj);have hp:=p149 (.func 389 [.ref c 0]) 389 [.ref c 0] (FV.r 389 c 0 []) (kids.map F.V) (by simp;omega) hkids hidx;refine⟨[.cells (F.mk op n ins kids).cells]++J3,fsp_of_awp (Zkk 388) rfl ?_⟩;simp only[F.cells,F.op,F.n,F.ins,F.kids,F.V_eq]at*;simp only[Zga 388,awp_seq,awp_reg,awp_cond,Zge 388 0,Zge 388 1,entryD];simp[h5,awp_skip];simp[h5]at gf;simp[D.vs?,D.v?,Zge 388 3];simp[h5]at hp;rw[hq]at hp;refine⟨_,_,hp,?_⟩;simp[awp_ret,Zgr 388]
 ·rw[if_neg h5]at hr;obtain⟨b1,X1,hl,hy,hr2⟩:=hr;obtain⟨J2,hy2⟩:=hy (J++[.cells (F.mk op n ins kids).cells]);have hbb:b=b1∧X'=X1:=by
   cases b1 with
   |true=>exact hr2
   |false=>exact hr2
  obtain⟨rfl,rfl⟩:=hbb;refine⟨[.cells (F.mk op n ins kids).cells]++J2,fsp_of_awp (Zkk 388) rfl ?_⟩;simp only[F.cells,F.op,F.n,F.ins,F.kids,F.V_eq]at*;simp only[Zga 388,awp_seq,awp_reg,awp_cond,Zge 388 0,Zge 388 1,entryD];simp[-Bool.exists_bool];simp[h5,Zge 388 2,-Bool.exists_bool];simp[ga,-Bool.exists_bool];refine⟨_,_,hy2,?_⟩;simp[awp_ret,Zgr 388]
theorem p242 (f:F) (hok:f.ok) (r q:Nat) (X:List Row) (b:Bool) (X':List Row) (hr:RunY Tryz.prog GLx r (f.tops.map F.V) X b X') (hq:X[q]?=some (.cells f.cells)):
  ∃J,FSp Tryz.prog GLx 387 [.yld r,.ref q 0] X [] (X'++J):=by
 obtain⟨J',hp⟩:=p243 r X.length (X.length+1) f hok X b X' [.cells [.yld r],.cells [.func 388 [.ref X.length 0,.ref (X.length+1) 0]]] 0 1 rfl rfl hr rfl rfl;refine⟨[.cells [.yld r],.cells [.func 388 [.ref X.length 0,.ref (X.length+1) 0]]]++J',fsp_of_awp (Zkk 387) rfl ?_⟩;obtain⟨op,n,ins,kids⟩:=f;have hq2:=get_old [.cells [.yld r],.cells [.func 388 [.ref X.length 0,.ref (X.length+1) 0]]] hq;simp only[F.cells,F.op,F.n,F.ins,F.kids,F.V_eq]at*;simp only[Zga 387,awp_seq,awp_reg,Zge 387 0,Zge 387 1,Zge 387 2,Zge 387 3,entryD];simp[putL,D.v?]
 try simp at hq2
 simp[hq2];exact⟨⟨_,hp⟩,rfl⟩
def entN:Nat→List V→List (V×V)
 |_,[]=>[]
 |k,v::vs=>(.int .i64 k,v)::entN (k+1) vs
def mapN (vs:List V):Row:= .map (entN 0 vs) (List.range vs.length) vs.length
theorem entN_app (v:V):∀(vs:List V) (k:Nat),entN k (vs++[v])=entN k vs++[(.int .i64 ((k+vs.length:Nat):Int),v)]
 |[],k=>rfl
 |x::vs,k=>by
  simp only[List.cons_append,entN,entN_app v vs (k+1),List.length_cons];rw[show k+1+vs.length=k+(vs.length+1) by omega]
theorem entN_get:∀(vs:List V) (k i:Nat) (v:V),vs[i]?=some v→(entN k vs)[i]?=some (.int .i64 ((k+i:Nat):Int),v)
 |x::vs,k,0,v,h=>by
  simp at h;subst h;rfl
 |x::vs,k,i+1,v,h=>by
  simp only[entN,List.getElem?_cons_succ];rw[entN_get vs (k+1) i v (by simpa using h),show k+1+i=k+(i+1) by omega]
theorem mfindN (st:Bool) (a:Int):∀(vs:List V) (k:Nat),mfind false [0] (.int .i64 a) (entN k vs)=some (if (k:Int)≤a∧a <k+vs.length then some (a-k).toNat else none)
 |[],k=>by
  rw[if_neg (by simp)];rfl
 |x::vs,k=>by
  have hk:keyOK false [0] (.int .i64 k)=true:=by simp[keyOK,V.eqL,V.eq1,V.cells]
  simp only[entN,mfind,hk,if_true,V.cells,V.eqL,V.eq1,Bool.and_true,mfindN st a vs (k+1),List.length_cons];by_cases h:a=k
  ·subst h;simp;omega
  ·have h2:(a==(k:Int))=false:=by simp[h]
   simp only[h2];by_cases h3:((k+1:Nat):Int)≤a∧a <((k+1:Nat):Int)+vs.length
   ·rw[if_pos h3,if_pos (by omega)];simp;omega
   ·rw[if_neg h3,if_neg (by omega)];rfl
theorem mapN_put (vs:List V) (v:V):Row.map (entN 0 vs++[(.int .i64 (vs.length:Nat),v)]) (List.range vs.length++[vs.length]) (vs.length+1)=mapN (vs++[v]):=by
 unfold mapN;rw[entN_app,List.length_append,List.length_singleton,List.range_succ,Nat.zero_add]
def meanC (acc:List F) (c:Clm):F:=if c.refs=[] then c.body else .mk 4 0 [] [c.body,.mk 5 0 [] (c.refs.map λr=>(acc[r.toNat]?).getD c.body)]
def meanL (l:List Clm):List F:=l.foldl (λacc c=>acc++[meanC acc c]) []
theorem meanL_len (l:List Clm):(meanL l).length=l.length:=by
 have:∀(l:List Clm) (acc:List F),(l.foldl (λacc c=>acc++[meanC acc c]) acc).length=acc.length+l.length:=by
  intro l;induction l with
  |nil=>simp
  |cons c l ih=>intro acc;rw[List.foldl_cons,ih];simp;omega
 have h:=this l [];rw[List.length_nil,Nat.zero_add]at h;exact h
theorem meanL_snoc (l:List Clm) (c:Clm):meanL (l++[c])=meanL l++[meanC (meanL l) c]:=by
 unfold meanL;rw[List.foldl_append];rfl
theorem meanL_take (l:List Clm) {k:Nat} {c:Clm} (h:l[k]?=some c):meanL (l.take (k+1))=meanL (l.take k)++[meanC (meanL (l.take k)) c]:=by
 rw[List.take_add_one,h];exact meanL_snoc _ _
theorem meanL_pre (l:List Clm):∀k,k≤l.length→meanL (l.take k)=(meanL l).take k:=by
 have:∀(l m:List Clm),(meanL (l++m)).take l.length=meanL l:=by
  intro l m;unfold meanL;rw[List.foldl_append];have:∀(m:List Clm) (acc:List F),∃t,m.foldl (λacc c=>acc++[meanC acc c]) acc=acc++t:=by
   intro m;induction m with
   |nil=>intro acc;exact⟨[],by simp⟩
   |cons c m ih=>
    intro acc;obtain⟨t,ht⟩:=ih (acc++[meanC acc c]);exact⟨[meanC acc c]++t,by rw[List.foldl_cons,ht];simp⟩
  obtain⟨t,ht⟩:=this m (l.foldl (λacc c=>acc++[meanC acc c]) []);rw[ht];have:=meanL_len l;unfold meanL at this;rw[List.take_append_of_le_length (by omega),List.take_of_length_le (by omega)]
 intro k hk;have h:=this (l.take k) (l.drop k);rw[List.take_append_drop]at h;rw[←h,List.length_take,Nat.min_eq_left hk]
structure MeanOK (T:List Clm):Prop where
 len:T.length≤32
 ok:∀c∈T,Clm.ok c
 refs:∀c∈T,c.refs.length≤8
 low:∀(k:Nat) (c:Clm),T[k]?=some c→∀r∈c.refs,0≤r∧r <k
 mean:∀f∈meanL T,f.ok∧formE f=0
theorem MeanOK.take {l:List Clm} (h:MeanOK l) (k:Nat) (hk:k≤l.length):MeanOK (l.take k) where
 len:=by have:=h.len;rw[List.length_take];omega
 ok:=λc hc=>h.ok c (List.mem_of_mem_take hc)
 refs:=λc hc=>h.refs c (List.mem_of_mem_take hc)
 low:=λj c hj=>h.low j c (by rw[List.getElem?_take]at hj;split at hj;exact hj;cases hj)
 mean:=λf hf=>h.mean f (by rw[meanL_pre l k hk]at hf;exact List.mem_of_mem_take hf)
def clmV (p:Int×Int):V:= .agg [.int .i64 p.1,.int .i64 p.2]
structure Rgt.fine (nc:Int) (r:Rgt):Prop where
 bad:r.bad.length≤2^40
 mean:MeanOK r.claims
 z:clmsE r.claims=0
 cls:∀f∈meanL r.claims,f.nodes.all (okC nc)=true
def Lows (J:List Row):Prop:=∀row∈J,∀n,Row.low n row=true
theorem Lows.nil:Lows []:=λrow h=>by cases h
theorem Lows.app {J:List Row} (h:Lows J) {row:Row} (hr:∀n,row.low n=true):Lows (J++[row]):=by
 intro x hx n;rcases List.mem_append.1 hx with hx|hx
 ·exact h x hx n
 ·rw[List.mem_singleton.1 hx];exact hr n
theorem Low.lows {h J:List Row} (hl:Low h) (hJ:Lows J):Low (h++J):=hl.apps λrow hr=>hJ row hr _
mutual
def Th.size:Th→Nat| .mk _ _ ps=>1+Th.sizes ps
def Th.sizes:List Th→Nat|[]=>0|k::ks=>k.size+Th.sizes ks
end
mutual
def Th.depth:Th→Nat| .mk _ _ ps=>Th.depths ps+1
def Th.depths:List Th→Nat|[]=>0|k::ks=>max k.depth (Th.depths ks)
end
theorem Th.size_pos (t:Th):1≤t.size:=by cases t;rw[Th.size];omega
theorem Th.depths_le (l:List Th) (h:∀x∈l,x.depth≤x.size):Th.depths l≤Th.sizes l:=by
 induction l with
 |nil=>simp[Th.depths]
 |cons k ks ih=>
  have:=h k (by simp);have:=ih λx hx=>h x (by simp[hx]);simp only[Th.depths,Th.sizes];omega
theorem Th.depth_le:∀t:Th,t.depth≤t.size:=by
 refine Th.ind λcs vs ps ih=>?_;have:=Th.depths_le ps ih;rw[Th.size,Th.depth];omega
theorem Th.nds_of (l:List Th) (h:∀x∈l,∀lv lf:Int,x.nd lv lf=if lv+x.depth≤9∧x.size≤lf then lf-x.size else -1):∀lv lf:Int,lv≤9→0≤lf→Th.nds l lv lf=if lv+Th.depths l≤9∧Th.sizes l≤lf then lf-Th.sizes l else -1:=by
 induction l with
 |nil=>intro lv lf h1 h2;simp[Th.nds,Th.depths,Th.sizes,h1,h2]
 |cons x xs ih=>
  intro lv lf h1 h2;have hx:=h x (by simp) lv lf;have hp:=x.size_pos;rw[Th.nds,hx];have e1:Th.depths (x::xs)=max x.depth (Th.depths xs):=rfl;have e2:Th.sizes (x::xs)=x.size+Th.sizes xs:=rfl;by_cases c1:lv+x.depth≤9∧x.size≤lf
  ·rw[if_pos c1,if_neg (by omega),ih (λy hy=>h y (by simp[hy])) lv _ h1 (by omega)];by_cases c2:lv+Th.depths xs≤9∧Th.sizes xs≤lf-x.size
   ·rw[if_pos c2,if_pos (by omega)];omega
   ·rw[if_neg c2,if_neg (by omega)]
  ·rw[if_neg c1,if_pos (by omega),if_neg (by omega)]
theorem Th.nd_of:∀(t:Th) (lv lf:Int),t.nd lv lf=if lv+t.depth≤9∧t.size≤lf then lf-t.size else -1:=by
 refine Th.ind λcs vs ps ih lv lf=>?_;rw[Th.nd,Th.size,Th.depth];by_cases c1:8 <lv∨lf <1
 ·rw[if_pos c1,if_neg (by omega)]
 ·rw[if_neg c1,Th.nds_of ps ih _ _ (by omega) (by omega)];by_cases c2:lv+1+Th.depths ps≤9∧Th.sizes ps≤lf-1
  ·rw[if_pos c2,if_pos (by omega)];omega
  ·rw[if_neg c2,if_neg (by omega)]
theorem limT_of (t:Th):limT t=decide (t.depth≤8∧t.size≤96):=by
 have:=t.size_pos;unfold limT;rw[t.nd_of];by_cases c:t.depth≤8∧t.size≤96
 ·rw[if_pos (by omega)];simp[c];omega
 ·rw[if_neg (by omega)];simp;omega
def AC.L:AC→AC
 | .seq a _=>a
 | .block _ c=>c
 |_=> .skip
def AC.R:AC→AC
 | .seq _ b=>b
 |_=> .skip
inductive Th.wb (n:Nat):Th→Prop
 |mk {cs vs ps} (h0:∀c∈cs,i64 c) (h1:cs.length≤n) (h2:vs.length≤n) (h3:ps.length≤n) (h4:∀x∈vs,Val.ok x) (h5:∀p∈ps,Th.wb n p):Th.wb n (.mk cs vs ps)
abbrev Th.wee:Th→Prop:=Th.wb 1000
abbrev Th.wid:Th→Prop:=Th.wb 2100
theorem Th.wb.mono {n m:Nat} (hm:n≤m) {t:Th} (h:t.wb n):t.wb m:=by
 induction h with
 |mk h0 h1 h2 h3 h4 _ ih=>exact .mk h0 (by omega) (by omega) (by omega) h4 ih
theorem Th.wee.wid {t:Th} (h:t.wee):t.wid:=Th.wb.mono (by decide) h
theorem Th.wb.fit {n:Nat} (hn:n≤2^20) {t:Th} (h:t.wb n):t.ok∧t.small:=by
 induction h with
 |mk h0 h1 h2 h3 h4 _ ih=>exact⟨.mk (by omega) (by omega) (by omega) h4 λp hp=>(ih p hp).1,.mk (by omega) (by omega) (by omega) λp hp=>(ih p hp).2⟩
theorem Th.wid.fit {t:Th} (h:t.wid):t.ok∧t.small:=Th.wb.fit (by decide) h
section
variable {cs:List Int} {vs:List Val} {ps:List Th} (h1:cs.length≤5000) (h2:vs.length≤5000) (h3:ps.length≤5000) (a h b:Int)
include h1 h2 h3
end
def encVal (x:Val):List Int:=encI x.a++(encI x.n++encI x.d)
mutual
def encTh:Th→List Int| .mk cs vs ps=>encInts cs++(encI vs.length++(vs.flatMap encVal++(encI ps.length++encThs ps)))
def encThs:List Th→List Int|[]=>[]|k::ks=>encTh k++encThs ks
end
theorem encThs_flat:∀l,encThs l=l.flatMap encTh
 |[]=>rfl
 |k::ks=>by rw[encThs,encThs_flat ks,List.flatMap_cons]
inductive Th.full:Th→Prop
 |mk {cs vs ps} (h0:∀c∈cs,i64 c) (h1:cs.length≤2^30) (h2:vs.length≤2^30) (h3:ps.length≤2^30) (h4:∀x∈vs,Val.ok x) (h5:∀p∈ps,Th.full p):Th.full (.mk cs vs ps)
theorem Th.full.ok {t:Th} (h:t.full):t.ok:=by
 induction h with
 |mk h0 h1 h2 h3 h4 h5 ih=>exact .mk h1 h2 h3 h4 ih
theorem encVal_len (x:Val):(encVal x).length≤30:=by
 have l1:=encI_len x.a;have l2:=encI_len x.n;have l3:=encI_len x.d;simp only[encVal,List.length_append];omega
def encHs (l:List Int):List Int:=encI l.length++l.flatMap uvar
def encPf (L R S:List Int):List Int:=encRaw S++(encHs L++encHs R)
def ordI (x:Ivl):List Int:=[b01 x.li,b01 x.lo,x.ln,x.ld,b01 x.hi,b01 x.ho,x.hn,x.hd]
def ordF (f:F):List Int:=[f.op,f.n,f.ins.length]++f.ins.flatMap ordI++[(f.kids.length:Int)]
theorem ordI_len (l:List Ivl):(l.flatMap ordI).length=8*l.length:=by
 induction l with
 |nil=>rfl
 |cons v vs ih=>rw[List.flatMap_cons,List.length_append,ih,List.length_cons];simp[ordI];omega
theorem p336 (f:F) (hl:f.ins.length≤2^20):PSp Tryz.prog GLx 176 [f.V] [nums .i64 (ordF f)]:=by
 refine psp_of_awp (Zkk 176) rfl ?_;obtain⟨op,n,ins,kids⟩:=f;simp only[F.ins]at hl;simp only[Zga 176,awp_seq,awp_reg,awp_block,Zge 176 0,Zge 176 1,Zge 176 2,entry,nums,F.V_eq];simp;refine awp_loop_nat0 ins.length (λk=>⟨[(1,.ref 0 0),(3,.own 3 1 ((op::n::(ins.length:Int)::(ins.take k).flatMap ordI).map (.int .i64))),(4,.v (.int .i64 k))],.cells [.v (.int .i64 op),.v (.int .i64 n),.v (.list (ins.map Ivl.V)),.v (.list (kids.map F.V))]::(ins.take k).map Ivl.row⟩) (by simp) ?_;intro k hkl;simp only[Zgl 176 0,awp_seq,awp_reg,awp_block,awp_cond,Zge 176 3];by_cases h1:k <ins.length
 ·obtain⟨x,hx⟩:∃x,ins[k]?=some x:=⟨_,List.getElem?_eq_getElem h1⟩;have w1:IntKind.i64.wrap ((k:Int)+1)=k+1:=wrap_i64 (by omega) (by omega);have h2:(k:Int) <ins.length:=by omega
  have hn:(ins.take (k+1)).flatMap ordI=(ins.take k).flatMap ordI++ordI x:=by
   rw[List.take_add_one,hx,List.flatMap_append];simp
  have hlen:=ordI_len (ins.take k);rw[List.length_take]at hlen;rw[hn];have hn2:(ins.take (k+1)).map Ivl.row=(ins.take k).map Ivl.row++[x.row]:=by
   rw[List.take_add_one,hx,List.map_append];rfl
  have hlen2:((ins.take k).map Ivl.row).length=k:=by rw[List.length_map,List.length_take];omega
  rw[hn2];generalize (ins.take k).flatMap ordI=L at*;generalize (ins.take k).map Ivl.row=H at*;have g1:=p339 x.li;have g2:=p339 x.lo;have g3:=p339 x.hi;have g4:=p339 x.ho;have hroom:roomy (L.length+3+8) 8=true:=by simp[roomy];omega
  simp[h2,awp_skip];simp only[awp_regD,Zge 176 5,Zge 176 6];simp[hx,Ivl.V,putL];refine⟨_,_,⟨rfl,rfl⟩,_,g1,?_⟩;simp;refine⟨_,_,⟨rfl,rfl⟩,_,g2,?_⟩;simp;refine⟨_,_,⟨rfl,rfl⟩,_,g3,?_⟩;simp;refine⟨_,_,⟨rfl,rfl⟩,_,g4,?_⟩;simp[hroom,Zge 176 4,w1,h1,ordI,Ivl.row]
 ·have hk2:k=ins.length:=by omega
  subst hk2;rw[List.take_length];have hlen:=ordI_len ins;simp only[ordF,F.op,F.n,F.ins,F.kids];generalize ins.flatMap ordI=L at*;have hroom:roomy (L.length+1+1+1+1) 8=true:=by simp[roomy];omega
  simp[awp_exit];simp[Zge 176 7,awp_ret,Zgr 176,hroom]
def F.sm (f:F):Prop:=∀g∈f.nodes,g.ins.length≤2^20∧g.kids.length≤2^20
theorem map_take_succ {α:Type} {l:List α} {k:Nat} {x:α} (h:l[k]?=some x) (f:α→V):(l.map f).take (k+1)=(l.map f).take k++[f x]:=by
 rw[List.take_add_one,List.getElem?_map,h];rfl
def cMr0 (a b c:Nat):List GI:=[⟨none,.box 1 (.t 0 false)⟩,
 ⟨none,.alloc 2 [.v (.int .i64 0),.v (.int .i64 0),.v (.int .i64 0),.own 72 5 [],.own a 4 [],.own 3 1 [],.own b 3 [],.own c 4 []]⟩]
def cMr1 (a b c:Nat):List GI:=[⟨none,.p 8 (.faddr (.t 1 false) 0 1)⟩,
 ⟨none,.p 9 (.load (.t 8 false) 1 false)⟩,
 ⟨none,.p 10 (.faddr (.t 1 false) 1 1)⟩,
 ⟨none,.p 11 (.load (.t 10 false) 1 false)⟩,
 ⟨none,.p 12 (.faddr (.t 1 false) 2 1)⟩,
 ⟨none,.p 13 (.load (.t 12 false) 1 false)⟩,
 ⟨none,.p 14 (.faddr (.t 1 false) 3 1)⟩,
 ⟨none,.p 15 (.load (.t 14 false) 1 false)⟩,
 ⟨none,.p 16 (.faddr (.t 1 false) 5 1)⟩,
 ⟨none,.p 17 (.load (.t 16 false) 1 false)⟩,
 ⟨none,.p 18 (.build [.v (.int .i64 0),.v (.int .i64 0),.v (.int .i64 0),.nil 72 5,.nil a 4,.nil 3 1,.nil b 3,.nil c 4] [(0,1,(.t 9 false)),(1,1,(.t 11 false)),(2,1,(.t 13 false)),(3,1,(.t 15 false)),(5,1,(.t 17 false))])⟩,
 ⟨none,.alloc 3 [.v (.int .i64 0),.v (.int .i64 0),.v (.int .i64 0),.own 72 5 [],.own a 4 [],.own 3 1 [],.own b 3 [],.own c 4 []]⟩,
 ⟨none,.store (.t 3 false) (.t 18 false) 8⟩]
def cMr2:List GI:=[⟨none,.mv 4 (.c (.v (.int .i64 0)))⟩]
def cMr3:List GI:=[⟨none,.mv 19 (.t 4 false)⟩,
 ⟨none,.p 20 (.faddr (.t 1 false) 4 1)⟩,
 ⟨none,.p 21 (.load (.t 20 false) 1 false)⟩,
 ⟨none,.p 22 (.alen (.t 21 false))⟩,
 ⟨none,.p 23 (.bin .lss (.t 19 false) (.t 22 false))⟩]
def cMr5 (a:Nat):List GI:=[⟨none,.p 26 (.faddr (.t 3 false) 4 1)⟩,
 ⟨none,.take 27 (.t 26 false)⟩,
 ⟨none,.p 28 (.faddr (.t 1 false) 4 1)⟩,
 ⟨none,.p 29 (.load (.t 28 false) 1 false)⟩,
 ⟨none,.mv 30 (.t 4 false)⟩,
 ⟨none,.p 31 (.iaddr (.t 29 false) (.t 30 false) 4)⟩,
 ⟨none,.p 32 (.faddr (.t 31 false) 0 2)⟩,
 ⟨none,.p 33 (.load (.t 32 false) 2 true)⟩,
 ⟨none,.p 34 (.faddr (.t 1 false) 4 1)⟩,
 ⟨none,.p 35 (.load (.t 34 false) 1 false)⟩,
 ⟨none,.mv 36 (.t 4 false)⟩,
 ⟨none,.p 37 (.iaddr (.t 35 false) (.t 36 false) 4)⟩,
 ⟨none,.p 38 (.faddr (.t 37 false) 2 1)⟩,
 ⟨none,.p 39 (.load (.t 38 false) 1 false)⟩,
 ⟨none,.p 40 (.faddr (.t 1 false) 4 1)⟩,
 ⟨none,.p 41 (.load (.t 40 false) 1 false)⟩,
 ⟨none,.mv 42 (.t 4 false)⟩,
 ⟨none,.p 43 (.iaddr (.t 41 false) (.t 42 false) 4)⟩,
 ⟨none,.p 44 (.faddr (.t 43 false) 3 1)⟩,
 ⟨none,.p 45 (.load (.t 44 false) 1 false)⟩,
 ⟨none,.p 46 (.build [.v (.int .i64 0),.v (.int .i64 0),.v (.int .i64 0),.v (.int .i64 0)] [(0,2,(.t 33 false)),(2,1,(.t 39 false)),(3,1,(.t 45 false))])⟩,
 ⟨none,.bsl 47 a 4 [(.t 46 false)]⟩,
 ⟨none,.app 48 (.t 27 true) (.t 47 false) a 4 32⟩,
 ⟨none,.p 49 (.faddr (.t 3 false) 4 1)⟩,
 ⟨none,.store (.t 49 false) (.t 48 true) 1⟩]
def cMr4:List GI:=[⟨none,.mv 24 (.t 4 false)⟩,
 ⟨none,.p 25 (.bin .add (.t 24 false) (.c (.v (.int .i64 1))))⟩,
 ⟨none,.mv 4 (.t 25 false)⟩]
def cMl0 (a:Nat):AC:=(.seq (.seq (.reg cMr3 [1,2,3,4,23]) (.cond (.t 23 false) .skip (.exit 0))) (.seq (.block 1 (.regD (cMr5 a) [1,2,3,4] [[],[0],[],[2],[],[2,3,4],[2,3,4,5],[2,3,4,5,6],[],[8],[],[8,9,10],[8,9,10,11],[8,9,10,11,12],[],[14],[],[14,15,16],[14,15,16,17],[14,15,16,17,18],[2,3,4,5,6,7,8,9,10,11,12,13,14,15,16,17,18,19],[2,3,4,5,6,7,8,9,10,11,12,13,14,15,16,17,18,19,20],[0,1,2,3,4,5,6,7,8,9,10,11,12,13,14,15,16,17,18,19,20,21],[0,1,2,3,4,5,6,7,8,9,10,11,12,13,14,15,16,17,18,19,20,21,22],[0,1,2,3,4,5,6,7,8,9,10,11,12,13,14,15,16,17,18,19,20,21,22,23]])) (.reg cMr4 [1,2,3,4])))
def cMr6:List GI:=[⟨none,.mv 5 (.c (.v (.int .i64 0)))⟩]
def cMr7:List GI:=[⟨none,.mv 50 (.t 5 false)⟩,
 ⟨none,.p 51 (.faddr (.t 1 false) 6 1)⟩,
 ⟨none,.p 52 (.load (.t 51 false) 1 false)⟩,
 ⟨none,.p 53 (.alen (.t 52 false))⟩,
 ⟨none,.p 54 (.bin .lss (.t 50 false) (.t 53 false))⟩]
def cMr9 (b:Nat):List GI:=[⟨none,.p 57 (.faddr (.t 3 false) 6 1)⟩,
 ⟨none,.take 58 (.t 57 false)⟩,
 ⟨none,.p 59 (.faddr (.t 1 false) 6 1)⟩,
 ⟨none,.p 60 (.load (.t 59 false) 1 false)⟩,
 ⟨none,.mv 61 (.t 5 false)⟩,
 ⟨none,.p 62 (.iaddr (.t 60 false) (.t 61 false) 3)⟩,
 ⟨none,.p 63 (.faddr (.t 62 false) 0 1)⟩,
 ⟨none,.p 64 (.load (.t 63 false) 1 false)⟩,
 ⟨none,.p 65 (.faddr (.t 1 false) 6 1)⟩,
 ⟨none,.p 66 (.load (.t 65 false) 1 false)⟩,
 ⟨none,.mv 67 (.t 5 false)⟩,
 ⟨none,.p 68 (.iaddr (.t 66 false) (.t 67 false) 3)⟩,
 ⟨none,.p 69 (.faddr (.t 68 false) 1 2)⟩,
 ⟨none,.p 70 (.load (.t 69 false) 2 true)⟩,
 ⟨none,.p 71 (.build [.v (.int .i64 0),.v (.int .i64 0),.v (.int .i64 0)] [(0,1,(.t 64 false)),(1,2,(.t 70 false))])⟩,
 ⟨none,.bsl 72 b 3 [(.t 71 false)]⟩,
 ⟨none,.app 73 (.t 58 true) (.t 72 false) b 3 24⟩,
 ⟨none,.p 74 (.faddr (.t 3 false) 6 1)⟩,
 ⟨none,.store (.t 74 false) (.t 73 true) 1⟩]
def cMr8:List GI:=[⟨none,.mv 55 (.t 5 false)⟩,
 ⟨none,.p 56 (.bin .add (.t 55 false) (.c (.v (.int .i64 1))))⟩,
 ⟨none,.mv 5 (.t 56 false)⟩]
def cMl1 (b:Nat):AC:=(.seq (.seq (.reg cMr7 [1,2,3,5,54]) (.cond (.t 54 false) .skip (.exit 2))) (.seq (.block 3 (.regD (cMr9 b) [1,2,3,5] [[],[0],[],[2],[],[2,3,4],[2,3,4,5],[2,3,4,5,6],[],[8],[],[8,9,10],[8,9,10,11],[8,9,10,11,12],[2,3,4,5,6,7,8,9,10,11,12,13],[2,3,4,5,6,7,8,9,10,11,12,13,14],[0,1,2,3,4,5,6,7,8,9,10,11,12,13,14,15],[0,1,2,3,4,5,6,7,8,9,10,11,12,13,14,15,16],[0,1,2,3,4,5,6,7,8,9,10,11,12,13,14,15,16,17]])) (.reg cMr8 [1,2,3,5])))
def cMr10:List GI:=[⟨none,.mv 6 (.c (.v (.int .i64 0)))⟩]
def cMr11:List GI:=[⟨none,.mv 75 (.t 6 false)⟩,
 ⟨none,.p 76 (.faddr (.t 1 false) 7 1)⟩,
 ⟨none,.p 77 (.load (.t 76 false) 1 false)⟩,
 ⟨none,.p 78 (.alen (.t 77 false))⟩,
 ⟨none,.p 79 (.bin .lss (.t 75 false) (.t 78 false))⟩]
def cMr13:List GI:=[⟨none,.p 82 (.faddr (.t 1 false) 7 1)⟩,
 ⟨none,.p 83 (.load (.t 82 false) 1 false)⟩,
 ⟨none,.mv 84 (.t 6 false)⟩,
 ⟨none,.p 85 (.iaddr (.t 83 false) (.t 84 false) 4)⟩,
 ⟨none,.p 86 (.load (.t 85 false) 4 true)⟩,
 ⟨none,.alloc 7 [.v (.int .i64 0),.v (.int .i64 0),.v (.int .i64 0),.v (.int .i64 0)]⟩,
 ⟨none,.store (.t 7 false) (.t 86 false) 4⟩]
def cMr14 (c:Nat):List GI:=[⟨none,.p 87 (.faddr (.t 3 false) 7 1)⟩,
 ⟨none,.take 88 (.t 87 false)⟩,
 ⟨none,.p 89 (.faddr (.t 7 false) 0 1)⟩,
 ⟨none,.p 90 (.load (.t 89 false) 1 false)⟩,
 ⟨none,.p 91 (.faddr (.t 7 false) 1 1)⟩,
 ⟨none,.p 92 (.load (.t 91 false) 1 false)⟩,
 ⟨none,.p 93 (.faddr (.t 7 false) 2 1)⟩,
 ⟨none,.p 94 (.load (.t 93 false) 1 false)⟩,
 ⟨none,.p 95 (.faddr (.t 7 false) 3 1)⟩,
 ⟨none,.p 96 (.load (.t 95 false) 1 false)⟩,
 ⟨none,.p 97 (.build [.v (.int .i64 0),.v (.int .i64 0),.v (.int .i64 0),.v (.int .i64 0)] [(0,1,(.t 90 false)),(1,1,(.t 92 false)),(2,1,(.t 94 false)),(3,1,(.t 96 false))])⟩,
 ⟨none,.bsl 98 c 4 [(.t 97 false)]⟩,
 ⟨none,.app 99 (.t 88 true) (.t 98 false) c 4 32⟩,
 ⟨none,.p 100 (.faddr (.t 3 false) 7 1)⟩,
 ⟨none,.store (.t 100 false) (.t 99 true) 1⟩]
def cMr12:List GI:=[⟨none,.mv 80 (.t 6 false)⟩,
 ⟨none,.p 81 (.bin .add (.t 80 false) (.c (.v (.int .i64 1))))⟩,
 ⟨none,.mv 6 (.t 81 false)⟩]
def cMl2 (c:Nat):AC:=(.seq (.seq (.reg cMr11 [1,2,3,6,79]) (.cond (.t 79 false) .skip (.exit 4))) (.seq (.block 5 (.seq (.reg cMr13 [1,2,3,6,7]) (.reg (cMr14 c) [1,2,3,6]))) (.reg cMr12 [1,2,3,6])))
def cMr15:List GI:=[⟨none,.p 101 (.load (.t 3 false) 8 true)⟩,
 ⟨none,.store (.t 2 false) (.t 101 false) 8⟩]
def cM (a b c:Nat):AC:=(.seq (.reg (cMr0 a b c) [1,2]) (.seq (.reg (cMr1 a b c) [1,2,3]) (.seq (.seq (.reg cMr2 [1,2,3,4]) (.block 0 (.loop (cMl0 a)))) (.seq (.seq (.reg cMr6 [1,2,3,5]) (.block 2 (.loop (cMl1 b)))) (.seq (.seq (.reg cMr10 [1,2,3,6]) (.block 4 (.loop (cMl2 c)))) (.seq (.reg cMr15 [2]) .ret))))))
def cMR:List AR:=[.c 2 8 true]
section
variable {a b c:Nat}
def mkL (a b c:Nat) (r:Rgt) (ds:List Dat) (os:List Own) (ls:List Lic):Row:=
 .cells [.v (.int .i64 r.file),.v (.int .i64 r.state),.v (.int .i64 r.force),.v (.list (r.claims.map Clm.V)),.own a 4 (ds.map Dat.V),.v (nums .i64 r.bad),.own b 3 (os.map Own.V),.own c 4 (ls.map Lic.V)]
set_option maxRecDepth 100000 in
theorem l53_0 (r:Rgt) (hn:r.dates.length≤2^30) (R1:Row) (os:List Own) (ls:List Lic):
  awp Tryz.prog GLx (.loop (cMl0 a)) (λe s=>e= .exit 0∧find s.e 1= .ref 0 0∧find s.e 2= .ref 1 0∧find s.e 3= .ref 2 0∧s.h=[r.row,R1,mkL a b c r r.dates os ls])
   ⟨[(1,.ref 0 0),(2,.ref 1 0),(3,.ref 2 0),(4,.v (.int .i64 0))],[r.row,R1,mkL a b c r [] os ls]⟩:=by
 refine awp_loop_nat0 r.dates.length (λk=>⟨[(1,.ref 0 0),(2,.ref 1 0),(3,.ref 2 0),(4,.v (.int .i64 k))],[r.row,R1,mkL a b c r (r.dates.take k) os ls]⟩) (by simp) ?_;intro k hk;simp only[cMl0,awp_seq,awp_reg,awp_block,awp_cond,cMr3];simp[Rgt.row];by_cases hlt:k <r.dates.length
 ·obtain⟨x,hxk⟩:∃x,r.dates[k]?=some x:=⟨_,List.getElem?_eq_getElem hlt⟩;have hxe:r.dates[k]=x:=(List.getElem?_eq_some_iff.1 hxk).2;have hw:IntKind.i64.wrap ((k:Int)+1)=k+1:=wrap_i64 (by omega) (by omega);have hroom:roomy (k+1) 32=true:=by simp[roomy];omega
  have ht:(r.dates.take k).length=k:=by simp;omega
  have hm:min k r.dates.length=k:=by omega
  have e:=map_take_succ hxk Dat.V;rw[if_pos (by omega),awp_skip];simp only[awp_regD,cMr5];simp[hxk,Dat.V,mkL,putL,hm,hroom];simp[cMr4,hw,hlt,e,Dat.V]
 ·have:k=r.dates.length:=by omega
  subst this;rw[if_neg (by omega),awp_exit];simp
set_option maxRecDepth 100000 in
theorem l53_1 (r:Rgt) (hn:r.owners.length≤2^30) (R1:Row) (ds:List Dat) (ls:List Lic):
  awp Tryz.prog GLx (.loop (cMl1 b)) (λe s=>e= .exit 2∧find s.e 1= .ref 0 0∧find s.e 2= .ref 1 0∧find s.e 3= .ref 2 0∧s.h=[r.row,R1,mkL a b c r ds r.owners ls])
   ⟨[(1,.ref 0 0),(2,.ref 1 0),(3,.ref 2 0),(5,.v (.int .i64 0))],[r.row,R1,mkL a b c r ds [] ls]⟩:=by
 refine awp_loop_nat0 r.owners.length (λk=>⟨[(1,.ref 0 0),(2,.ref 1 0),(3,.ref 2 0),(5,.v (.int .i64 k))],[r.row,R1,mkL a b c r ds (r.owners.take k) ls]⟩) (by simp) ?_;intro k hk;simp only[cMl1,awp_seq,awp_reg,awp_block,awp_cond,cMr7];simp[Rgt.row];by_cases hlt:k <r.owners.length
 ·obtain⟨x,hxk⟩:∃x,r.owners[k]?=some x:=⟨_,List.getElem?_eq_getElem hlt⟩;have hxe:r.owners[k]=x:=(List.getElem?_eq_some_iff.1 hxk).2;have hw:IntKind.i64.wrap ((k:Int)+1)=k+1:=wrap_i64 (by omega) (by omega);have hroom:roomy (k+1) 24=true:=by simp[roomy];omega
  have ht:(r.owners.take k).length=k:=by simp;omega
  have hm:min k r.owners.length=k:=by omega
  have e:=map_take_succ hxk Own.V;rw[if_pos (by omega),awp_skip];simp only[awp_regD,cMr9];simp[hxk,Own.V,mkL,putL,hm,hroom];simp[cMr8,hw,hlt,e,Own.V]
 ·have:k=r.owners.length:=by omega
  subst this;rw[if_neg (by omega),awp_exit];simp
set_option maxRecDepth 100000 in
theorem l53_2 (r:Rgt) (hn:r.lics.length≤2^30) (R1:Row) (ds:List Dat) (os:List Own):
  awp Tryz.prog GLx (.loop (cMl2 c)) (λe s=>e= .exit 4∧find s.e 1= .ref 0 0∧find s.e 2= .ref 1 0∧find s.e 3= .ref 2 0∧∃J,s.h=r.row::R1::mkL a b c r ds os r.lics::J)
   ⟨[(1,.ref 0 0),(2,.ref 1 0),(3,.ref 2 0),(6,.v (.int .i64 0))],[r.row,R1,mkL a b c r ds os []]⟩:=by
 refine awp_loop_I r.lics.length (λk s=>s.e=[(1,.ref 0 0),(2,.ref 1 0),(3,.ref 2 0),(6,.v (.int .i64 k))]∧∃J,s.h=r.row::R1::mkL a b c r ds os (r.lics.take k)::J) ⟨by simp,[],by simp⟩ ?_;rintro k ⟨se,sh⟩ hk ⟨he,J2,hh⟩;simp only at he hh;subst he hh;simp only[cMl2,awp_seq,awp_reg,awp_block,awp_cond,cMr11];simp[Rgt.row];by_cases hlt:k <r.lics.length
 ·obtain⟨x,hxk⟩:∃x,r.lics[k]?=some x:=⟨_,List.getElem?_eq_getElem hlt⟩;have hxe:r.lics[k]=x:=(List.getElem?_eq_some_iff.1 hxk).2;have hw:IntKind.i64.wrap ((k:Int)+1)=k+1:=wrap_i64 (by omega) (by omega);have hroom:roomy (k+1) 32=true:=by simp[roomy];omega
  have ht:(r.lics.take k).length=k:=by simp;omega
  have hm:min k r.lics.length=k:=by omega
  have e:=map_take_succ hxk Lic.V;rw[if_pos (by omega),awp_skip];simp only[cMr13];simp[hxk,Lic.V,mkL,putL];simp only[cMr14];simp[putL,hm,hroom];simp[cMr12,hw,hlt,e,Lic.V]
 ·have:k=r.lics.length:=by omega
  subst this;rw[if_neg (by omega),awp_exit];simp
set_option maxRecDepth 100000 in
theorem pM {n:Nat} (hk:chkF Tryz.prog GLx n 1 (cM a b c) cMR=true) (r:Rgt) (hr:r.ok):PSp Tryz.prog GLx n [r.V] [r.V]:=by
 refine psp_of_awp hk rfl ?_;simp only[cM,awp_seq,awp_reg,awp_block,cMr0,cMr1,entry];simp[Rgt.V,Rgt.cs,putL,cMr2];have q0:=λR1=>l53_0 (a:=a) (b:=b) (c:=c) r hr.ld R1 [] [];have q1:=λR1=>l53_1 (a:=a) (b:=b) (c:=c) r hr.lo R1 r.dates [];have q2:=λR1=>l53_2 (a:=a) (b:=b) (c:=c) r hr.ll R1 r.dates r.owners;simp only[mkL,Rgt.row,List.map_nil]at q0 q1 q2;refine awp_mono _ ?_ (q0 _);rintro e ⟨se,sh⟩ ⟨rfl,f1,f2,f3,hh⟩;simp only at f1 f2 f3 hh;subst hh;simp[cMr6,f1,f2,f3];refine awp_mono _ ?_ (q1 _);rintro e ⟨se,sh⟩ ⟨rfl,f1,f2,f3,hh⟩;simp only at f1 f2 f3 hh;subst hh;simp[cMr10,f1,f2,f3];refine awp_mono _ ?_ (q2 _);rintro e ⟨se,sh⟩ ⟨rfl,f1,f2,f3,J,hh⟩;simp only at f1 f2 f3 hh;subst hh;simp[cMr15,f2,f3,awp_ret,cMR,D.vs?,D.v?,putL,nums]
end
structure Ext where
 (kind file party day:Int)
 t:Th
 rs:List Rgt
 cl:List (Int×Int)
 fs:List Int
 (L R S:List Int)
def Ext.cs (x:Ext):List V:=[.int .i64 x.kind,.int .i64 x.file,.int .i64 x.party,.int .i64 x.day,nums .i64 x.t.cs,.list (x.t.vs.map Val.V),.list (x.t.ps.map Th.V),.list (x.rs.map Rgt.V),.list (x.cl.map clmV),nums .i64 x.fs,nums .u64 x.L,nums .u64 x.R,nums .u8 x.S]
def Ext.V (x:Ext):V:= .agg x.cs
structure Rgt.sm (r:Rgt):Prop where
 h1:r.claims.length≤2^30
 h2:∀c∈r.claims,c.refs.length≤2^40∧c.body.sm
 h3:r.dates.length≤2^30
 h4:r.bad.length≤2^40
 h5:r.owners.length≤2^30
 h6:r.lics.length≤2^30
structure Ext.sm (x:Ext):Prop where
 t:x.t.ok
 rs:∀r∈x.rs,r.sm
 lr:x.rs.length≤2^30
 cl:x.cl.length≤2^30
 fs:x.fs.length≤2^40
 L:x.L.length≤2^40
 R:x.R.length≤2^40
 S:x.S.length≤2^40
def Ext.row (x:Ext):Row:= .cells (x.cs.map .v)
def Ext.mkR (x:Ext) (rs:List Rgt) (cl:List (Int×Int)):Row:=
 .cells [.v (.int .i64 x.kind),.v (.int .i64 x.file),.v (.int .i64 x.party),.v (.int .i64 x.day),.v (nums .i64 x.t.cs),.v (.list (x.t.vs.map Val.V)),.v (.list (x.t.ps.map Th.V)),.own 29 8 (rs.map Rgt.V),.own 136 2 (cl.map clmV),.v (nums .i64 x.fs),.v (nums .u64 x.L),.v (nums .u64 x.R),.v (nums .u8 x.S)]
def clB (c:Int×Int):List Int:=encI c.1++encI c.2
def rgB (r:Rgt):List Int:=encRaw (encR r)
def encE (x:Ext):List Int:=
 [x.kind,x.file,x.party,x.day].flatMap encI++(encRaw (encTh x.t)++(encI x.rs.length++(x.rs.flatMap rgB++(encI x.cl.length++(x.cl.flatMap clB++(encInts x.fs++encRaw (encPf x.L x.R x.S)))))))
def extE (x:Ext):Int:=if thE x.t=0 then (if x.rs.all formedR then 0 else 1) else thE x.t
structure Ext.fit (x:Ext):Prop where
 k:i64 x.kind
 f:i64 x.file
 p:i64 x.party
 d:i64 x.day
 t:x.t.full
 rs:∀r∈x.rs,r.ok
 lr:x.rs.length≤2^30
 cl:∀c∈x.cl,i64 c.1∧i64 c.2
 lc:x.cl.length≤2^30
 fs:∀n∈x.fs,i64 n
 lf:x.fs.length≤2^30
 L:∀n∈x.L,u64 n
 R:∀n∈x.R,u64 n
 S:∀n∈x.S,0≤n∧n <256
 lL:x.L.length≤2^30
 lR:x.R.length≤2^30
 lS:x.S.length≤2^30
 all:(encE x).length≤2^40
section
variable (c0 c1 c2 c3 c4 c5 c6 c9 c10 c11 c12:D) (rs:List Rgt) (cl:List (Int×Int))
end
structure Ext.nic (n s m n0:Nat) (x:Ext):Prop where
 k:i64 x.kind
 f:i64 x.file
 p:i64 x.party
 d:i64 x.day
 t:x.t.wb n
 ts:x.t.size≤s
 rs:∀r∈x.rs,r.tiny m
 lr:x.rs.length≤4
 cl:∀c∈x.cl,i64 c.1∧i64 c.2
 lc:x.cl.length≤n0
 fs:∀n∈x.fs,i64 n
 lf:x.fs.length≤n0
 L:∀n∈x.L,u64 n
 R:∀n∈x.R,u64 n
 S:∀n∈x.S,0≤n∧n <256
 lL:x.L.length≤n0
 lR:x.R.length≤n0
 lS:x.S.length≤n0
theorem hd_int (k:IntKind) (l:List Int):headOK 1 (l.map (V.int k))=true:=by cases l<;>rfl
theorem k_flat (k:IntKind) (l:List Int):(l.map (V.int k)).flatMap V.cells=l.map (V.int k):=by
 induction l with
 |nil=>rfl
 |cons x l ih=>rw[List.map_cons,List.flatMap_cons,ih];rfl
section
variable (x:Ext) (how at_ by_:Int) {n s m n0:Nat} (hx:x.nic n s m n0) (hn0:n0≤2097152)
include hx hn0
end
theorem vs_mapQ:∀l:List V,D.vs? (l.map D.v)=some l
 |[]=>rfl
 |x::l=>by
  have ih:=vs_mapQ l;simp[D.vs?,D.v?,ih]
section
variable (x:Ext) (how at_ by_:Int) {n s m n0:Nat} (hx:x.nic n s m n0) (hn0:n0≤2097152)
include hx hn0
end
theorem incC_len {l:List Int} {m:Nat} (h:incC l m=true):l.length≤m:=by
 unfold incC at h;rw[Bool.not_eq_true',List.any_eq_false]at h;have key:∀k,k <l.length→(k:Int)≤l.getD k 0:=by
  intro k;induction k with
  |zero=>
   intro hk;have:=h 0 (List.mem_range.2 hk);simp only[badC,decide_eq_true_eq]at this;omega
  |succ k ih=>
   intro hk;have h1:=ih (by omega);have:=h (k+1) (List.mem_range.2 hk);simp only[badC,decide_eq_true_eq,Nat.add_sub_cancel]at this;omega
 rcases Nat.eq_zero_or_pos l.length with h0|h0
 ·omega
 ·have h1:=key (l.length-1) (by omega);have h2:=h (l.length-1) (List.mem_range.2 (by omega));simp only[badC,decide_eq_true_eq]at h2;omega
theorem formeds_mem {l:List Th} (h:Th.formeds l=true):∀x∈l,x.formed=true:=by
 induction l with
 |nil=>intro x hx;cases hx
 |cons y l ih=>
  simp only[Th.formeds,Bool.and_eq_true]at h;intro x hx;rcases List.mem_cons.1 hx with rfl|hx
  ·exact h.1
  ·exact ih h.2 x hx
theorem thE_0 {t:Th} (h:thE t=0):t.depth≤8∧t.size≤96∧t.formed=true:=by
 unfold thE at h;split at h
 ·rename_i hl;rw[limT_of,decide_eq_true_eq]at hl;split at h
  ·rename_i hf;exact⟨hl.1,hl.2,hf⟩
  ·cases h
 ·cases h
theorem encTh_le {C:Nat}:∀t:Th,(∀x,t=x→x.formed=true)→(encTh t).length≤2000*t.size:=by
 refine Th.ind λcs vs ps ih=>?_;intro hF;have hF:=hF _ rfl;simp only[Th.formed,Bool.and_eq_true]at hF;have hc:=incC_len (m:=64) hF.2.1;have hv:=incC_len (m:=32) hF.2.2.1;rw[List.length_map]at hv;have g1:=flat_encI_len cs;have g2:=uvar_len (cs.length:Int);have g3:=encI_len (vs.length:Int);have g4:=encI_len (ps.length:Int);have g5:=flat_leq (m:=30) vs λx _=>encVal_len x;have g6:∀l:List Th,(∀x∈l,(encTh x).length≤2000*x.size)→(encThs l).length≤2000*Th.sizes l:=by
  intro l;induction l with
  |nil=>intro _;simp[encThs]
  |cons x l ihl=>
   intro h;have h1:=h x (by simp);have h2:=ihl λy hy=>h y (by simp[hy]);simp only[encThs,List.length_append,Th.sizes];omega
 have g7:=g6 ps λx hx=>ih x hx λy hy=>hy▸formeds_mem hF.2.2.2 x hx;simp only[encTh,encInts,List.length_append,Th.size];omega
theorem encTh_small {t:Th} (h:thE t=0):(encTh t).length≤192000:=by
 obtain⟨h1,h2,h3⟩:=thE_0 h;have:=encTh_le (C:=0) t λx hx=>hx▸h3;omega
theorem extE_0 {x:Ext} (h:extE x=0):thE x.t=0∧∀r∈x.rs,formedR r=true:=by
 unfold extE at h;split at h
 ·rename_i ht;split at h
  ·rename_i hr;exact⟨ht,List.all_eq_true.1 hr⟩
  ·cases h
 ·rename_i ht;exact absurd h ht
section
variable (l:List Int)
end
theorem isB.encTh:∀t:Th,t.full→(Go.Va.encTh t).length≤2^50→isB (Go.Va.encTh t):=by
 refine Th.ind λcs vs ps ih hf hb=>?_;obtain⟨h0,h1,h2,h3,h4,h5⟩:=hf;rw[Go.Va.encTh,encThs_flat]at hb ⊢;simp only[List.length_append]at hb;refine(isB.encInts h0 (by omega)).app ((isB.encI (by unfold i64;omega)).app ((isB.flat λx hx=>?_).app ((isB.encI (by unfold i64;omega)).app (isB.flat λp hp=>ih p hp (h5 p hp) ?_))))
 ·exact(isB.encI (h4 x hx).1).app ((isB.encI (h4 x hx).2.1).app (isB.encI (h4 x hx).2.2))
 ·obtain⟨a,b,rfl⟩:=List.append_of_mem hp;simp only[List.flatMap_append,List.flatMap_cons,List.length_append]at hb;omega
theorem isB.encPf {L R S:List Int} (hL:∀n∈L,u64 n) (hR:∀n∈R,u64 n) (hS:isB S) (lL:L.length≤2^60) (lR:R.length≤2^60) (lS:S.length≤2^60):isB (Go.Va.encPf L R S):=
 (isB.encRaw hS lS).app (((isB.encI (by unfold i64;omega)).app (isB.flat λx hx=>isB.uvar (hL x hx).1 (hL x hx).2)).app ((isB.encI (by unfold i64;omega)).app (isB.flat λx hx=>isB.uvar (hR x hx).1 (hR x hx).2)))
section
variable (RW:Row) (H:List Row)
end
theorem isB.encE {x:Ext} (h:x.fit) (hB:∀r∈x.rs,isB (Go.Va.encR r)) (hz:extE x=0):isB (Go.Va.encE x):=by
 have h1:=h.lr;have h2:=h.lc;have h3:=h.lf;have h4:=h.lL;have h5:=h.lR;have h6:=h.lS;have hall:=h.all;have ht:=encTh_small (extE_0 hz).1;have hrl:∀r∈x.rs,(Go.Va.encR r).length≤2^60:=by
  intro r hr;have k1:=flat_len_mem (f:=rgB) hr;have k2:(x.rs.flatMap rgB).length≤(Go.Va.encE x).length:=by unfold Go.Va.encE;simp only[List.length_append];omega
  have k3:(Go.Va.encR r).length≤(rgB r).length:=by unfold rgB Go.Va.encRaw;rw[List.length_append];omega
  omega
 have hpl:(Go.Va.encPf x.L x.R x.S).length≤2^60:=by
  have k2:(Go.Va.encRaw (Go.Va.encPf x.L x.R x.S)).length≤(Go.Va.encE x).length:=by unfold Go.Va.encE;simp only[List.length_append];omega
  have k3:(Go.Va.encPf x.L x.R x.S).length≤(Go.Va.encRaw (Go.Va.encPf x.L x.R x.S)).length:=by unfold Go.Va.encRaw;rw[List.length_append];omega
  omega
 unfold Go.Va.encE;refine isB.app (isB.flat λn hn=>isB.encI ?_) (isB.app (isB.encRaw (isB.encTh x.t h.t (by omega)) (by omega)) (isB.app (isB.encI (by unfold i64;omega)) (isB.app (isB.flat λr hr=>isB.encRaw (hB r hr) (hrl r hr)) (isB.app (isB.encI (by unfold i64;omega)) (isB.app (isB.flat λc hc=>(isB.encI (h.cl c hc).1).app (isB.encI (h.cl c hc).2)) (isB.app (isB.encInts h.fs (by omega)) (isB.encRaw (isB.encPf h.L h.R h.S (by omega) (by omega) (by omega)) hpl)))))));simp only[List.mem_cons,List.not_mem_nil,or_false]at hn;rcases hn with rfl|rfl|rfl|rfl
 ·exact h.k
 ·exact h.f
 ·exact h.p
 ·exact h.d
theorem kids_le:∀f:F,∀g∈f.nodes,g.kids.length≤f.size:=by
 refine F.ind λop n ins kids ih g hg=>?_;rw[F.nodes_eq]at hg;rw[F.size_eq];rcases List.mem_cons.1 hg with rfl|hg
 ·have:=F.kids_len kids;simp only[F.kids];omega
 ·obtain⟨k,hk,hg⟩:=List.mem_flatMap.1 hg;have h1:=ih k hk g hg;have h2:=F.kid_size hk;omega
theorem encR_le4 {r:Rgt} (h:r.tiny 4):(encR r).length≤65536:=by
 have h1:=h.lc;have h2:=h.ld;have h3:=h.lb;have h4:=h.lo;have h5:=h.ll;have e0:=encClms_le h.claims;have e1:=encI_len r.file;have e2:=encI_len r.state;have e3:=encI_len r.force;have e4:=uvar_len (encClms r.claims).length;have e5:=encI_len r.dates.length;have e6:=flat40 encDat_len r.dates;have e7:=encInts_le r.bad;have e8:=encI_len r.owners.length;have e9:=flat40 encOwn_len r.owners;have e10:=encI_len r.lics.length;have e11:=flat40 encLic_len r.lics;simp only[encR,encRaw,List.length_append];omega
theorem rgt_sm4 {r:Rgt} (h:r.tiny 4):r.sm where
 h1:=by have:=h.lc;omega
 h2:=λc hc=>⟨by have:=(h.claims c hc).lr;omega,λg hg=>⟨by have:=((h.claims c hc).body.one g hg).2;omega,by have:=kids_le _ g hg;have:=(h.claims c hc).body.size;omega⟩⟩
 h3:=by have:=h.ld;omega
 h4:=by have:=h.lb;omega
 h5:=by have:=h.lo;omega
 h6:=by have:=h.ll;omega
theorem noR_ok:noR.ok:=⟨⟨by decide,by decide⟩,⟨by decide,by decide⟩,⟨by decide,by decide⟩,by simp[noR],by simp[noR],by simp[noR],by simp[noR],by simp[noR],by simp[noR],by simp[noR],by simp[noR],by simp[noR],by simp[noR],by decide⟩
theorem dR_out (b:List Int) (hB:isB b) (hl:b.length≤2^30):∃(D:Rgt) (e:Int),optR (dR b)=[D.V,.int .i64 e]∧D.ok∧((e=0∧formedR D=true∧encR D=b)∨(e=2∧D=noR)):=by
 cases h:dR b with
 |none=>exact⟨noR,2,rfl,noR_ok,.inr ⟨rfl,rfl⟩⟩
 |some x=>
  obtain⟨h1,h2,h3⟩:=dR_ok hB hl h;exact⟨x,0,rfl,h1,.inl ⟨rfl,h2,h3⟩⟩
structure Rgt.fine4 (r:Rgt):Prop where
 ok:r.ok
 sm:r.sm
 len:(encR r).length≤65536
 B:isB (encR r)
theorem Rgt.tiny.fine4 {r:Rgt} (h:r.tiny 4):r.fine4:=⟨h.ok (by decide),rgt_sm4 h,encR_le4 h,isB.encR r (h.ok (by decide))⟩
theorem Rgt.tiny.up {m n:Nat} {r:Rgt} (h:r.tiny m) (hn:m≤n):r.tiny n:=
 ⟨h.file,h.state,h.force,h.claims,h.dates,h.bad,h.owners,h.lics,Nat.le_trans h.lc hn,Nat.le_trans h.ld hn,Nat.le_trans h.lb hn,Nat.le_trans h.lo hn,Nat.le_trans h.ll hn⟩
theorem some_fine (l:List Int):(someF l).fine4:=((someF_tiny l).up (by decide)).fine4
theorem spoil_fine (l:List Int) (h b:Int) (hb:i64 b):(spoilF (someF l) h b).fine4:=(spoilF_tiny (someF_tiny l) (by decide) h b hb).fine4
theorem encR_eq (r:Rgt):encR r=encI r.file++(encI r.state++(encI r.force++(encRaw (encClms r.claims)++(encI r.dates.length++(r.dates.flatMap encDat++(encInts r.bad++(encI r.owners.length++(r.owners.flatMap encOwn++(encI r.lics.length++r.lics.flatMap encLic))))))))):=by simp[encR]
theorem rInt_encR {r:Rgt} (h:i64 r.file):∃rest,rInt (encR r,0)=(r.file,(rest,0)):=⟨_,by rw[encR_eq];exact rInt_of h _⟩
theorem encR_pos {r:Rgt}:0 <(encR r).length:=by
 have:=uvarF_pos 9 (zigI r.file);rw[encR_eq,List.length_append];unfold encI uvar;omega
theorem list_same {α:Type} {a b:List α} (hl:a.length=b.length) (h:∀j <b.length,a[j]?=b[j]?):a=b:=by
 apply List.ext_getElem?;intro j;by_cases hj:j <b.length
 ·exact h j hj
 ·rw[List.getElem?_eq_none (by omega),List.getElem?_eq_none (by omega)]
theorem p82g (a b:List Int) (hl:a.length≤2^40):PSp Tryz.prog GLx 39 [nums .i64 a,nums .i64 b] [.bool (decide (a=b))]:=by
 refine psp_of_awp (Zkk 39) rfl ?_;simp only[Zga 39,awp_seq,awp_reg,awp_block,awp_cond,Zge 39 0,Zge 39 1,entry,nums];simp;by_cases hab:a.length=b.length
 ·simp[hab,awp_skip,Zge 39 3];refine awp_loop_I b.length (λk s=>s=⟨[(0,.v (.list (a.map (.int .i64)))),(1,.v (.list (b.map (.int .i64)))),(5,.v (.int .i64 k))],[]⟩∧∀j <k,a[j]?=b[j]?) ⟨by simp,by omega⟩ ?_;rintro k s hk ⟨rfl,hI⟩;simp only[Zgl 39 0,awp_seq,awp_reg,awp_block,awp_cond,Zge 39 4];simp[hab];by_cases hkl:k <b.length
  ·obtain⟨x,hx⟩:∃x,a[k]?=some x:=⟨_,List.getElem?_eq_getElem (by omega)⟩;obtain⟨y,hy⟩:∃y,b[k]?=some y:=⟨_,List.getElem?_eq_getElem hkl⟩;have w1:IntKind.i64.wrap ((k:Int)+1)=k+1:=wrap_i64 (by omega) (by omega);simp[hkl,awp_skip];simp only[awp_regD,Zge 39 6];simp[hx,hy];by_cases e1:x=y
   ·subst e1;simp[Zge 39 5,w1];intro j hj;by_cases hj2:j <k
    ·exact hI j hj2
    ·have:j=k:=by omega
     subst this;rw[hx,hy]
   ·have hne:a≠b:=by
     intro h;subst h;rw[hx]at hy;simp at hy;exact e1 hy
    simp[e1,hne,Zge 39 7,awp_ret,Zgr 39]
  ·have hk2:k=b.length:=by omega
   subst hk2;simp[awp_exit];simp[Zge 39 8,awp_ret,Zgr 39,list_same hab hI]
 ·have hne:a≠b:=λh=>hab (by rw[h]);have hab':¬(a.length:Int)=b.length:=by omega
  simp[hab',hne,Zge 39 2,awp_ret,Zgr 39]
def cTr0:List GI:=[⟨none,.mv 4 (.c (.v (.bool false)))⟩]
def cTr1:List GI:=[⟨none,.mv 6 (.t 0 false)⟩,⟨none,.p 7 (.alen (.t 6 false))⟩,⟨none,.mv 8 (.t 1 false)⟩,⟨none,.p 9 (.alen (.t 8 false))⟩,⟨none,.p 10 (.bin .neq (.t 7 false) (.t 9 false))⟩]
def cTr3:List GI:=[⟨none,.mv 5 (.c (.v (.int .i64 0)))⟩]
def cTr4:List GI:=[⟨none,.mv 11 (.t 5 false)⟩,⟨none,.mv 12 (.t 0 false)⟩,⟨none,.p 13 (.alen (.t 12 false))⟩,⟨none,.p 14 (.bin .lss (.t 11 false) (.t 13 false))⟩]
def cTr6 (ks:List Nat):List GI:=[⟨none,.mv 17 (.t 0 false)⟩,⟨none,.mv 18 (.t 5 false)⟩,⟨none,.p 19 (.iaddr (.t 17 false) (.t 18 false) ks.length)⟩,⟨none,.p 20 (.load (.t 19 false) ks.length true)⟩,
 ⟨none,.mv 21 (.t 1 false)⟩,⟨none,.mv 22 (.t 5 false)⟩,⟨none,.p 23 (.iaddr (.t 21 false) (.t 22 false) ks.length)⟩,⟨none,.p 24 (.load (.t 23 false) ks.length true)⟩,⟨none,.p 25 (.eqA true ks (.t 20 false) (.t 24 false))⟩]
def cTr5:List GI:=[⟨none,.mv 15 (.t 5 false)⟩,⟨none,.p 16 (.bin .add (.t 15 false) (.c (.v (.int .i64 1))))⟩,⟨none,.mv 5 (.t 16 false)⟩]
def cTr8:List GI:=[⟨none,.mv 4 (.c (.v (.bool true)))⟩]
def cTl0 (ks:List Nat):AC:=(.seq (.seq (.reg cTr4 [0,1,5,14]) (.cond (.t 14 false) .skip (.exit 0))) (.seq (.block 1 (.seq (.regD (cTr6 ks) [0,1,5,25] [[],[],[0,1],[0,1,2],[],[],[4,5],[4,5,6],[0,1,2,3,4,5,6,7]]) (.cond (.t 25 false) (.seq (.reg cTr0 [4]) .ret) .skip))) (.reg cTr5 [0,1,5])))
def cT (ks:List Nat):AC:=(.seq (.reg cTr0 [0,1]) (.seq (.seq (.reg cTr1 [0,1,10]) (.cond (.t 10 false) (.seq (.reg cTr0 [4]) .ret) .skip)) (.seq (.seq (.reg cTr3 [0,1,5]) (.block 0 (.loop (cTl0 ks)))) (.seq (.reg cTr8 [4]) .ret))))
structure Flds (ks:List Nat) {α:Type} [DecidableEq α] (cs:α→List V):Prop where
 len:∀x,(cs x).length=ks.length
 eq:∀x y,V.eqL ks (cs x) (cs y)=some (decide (x=y))
theorem pTg {α:Type} [DecidableEq α] {ks:List Nat} {cs:α→List V} (F:Flds ks cs) {n:Nat} (hk:chkF Tryz.prog GLx n 2 (cT ks) [.t 4]=true) (a b:List α) (hl:a.length≤2^40):
  PSp Tryz.prog GLx n [.list (a.map λx=> .agg (cs x)),.list (b.map λx=> .agg (cs x))] [.bool (decide (a=b))]:=by
 refine psp_of_awp hk rfl ?_;simp only[cT,awp_seq,awp_reg,awp_block,awp_cond,cTr0,cTr1,entry];simp;by_cases hab:a.length=b.length
 ·simp[hab,awp_skip,cTr3];refine awp_loop_I b.length (λk s=>s=⟨[(0,.v (.list (a.map λx=> .agg (cs x)))),(1,.v (.list (b.map λx=> .agg (cs x)))),(5,.v (.int .i64 k))],[]⟩∧∀j <k,a[j]?=b[j]?) ⟨by simp,by omega⟩ ?_;rintro k s hk ⟨rfl,hI⟩;simp only[cTl0,awp_seq,awp_reg,awp_block,awp_cond,cTr4];simp[hab];by_cases hkl:k <b.length
  ·obtain⟨x,hx⟩:∃x,a[k]?=some x:=⟨_,List.getElem?_eq_getElem (by omega)⟩;obtain⟨y,hy⟩:∃y,b[k]?=some y:=⟨_,List.getElem?_eq_getElem hkl⟩;have w1:IntKind.i64.wrap ((k:Int)+1)=k+1:=wrap_i64 (by omega) (by omega);have hlx:=F.len x;have hly:=F.len y;have htx:(cs x).take ks.length=cs x:=List.take_of_length_le (by omega);have hty:(cs y).take ks.length=cs y:=List.take_of_length_le (by omega);have he:=F.eq x y;simp[hkl,awp_skip];simp only[awp_regD,cTr6];simp[hx,hy,hlx,hly,htx,hty,he];by_cases e1:x=y
   ·subst e1;simp[cTr5,w1];intro j hj;by_cases hj2:j <k
    ·exact hI j hj2
    ·have:j=k:=by omega
     subst this;rw[hx,hy]
   ·have hne:a≠b:=by
     intro h;subst h;rw[hx]at hy;simp at hy;exact e1 hy
    simp[e1,hne,awp_ret,cTr0]
  ·have hk2:k=b.length:=by omega
   subst hk2;simp[awp_exit];simp[cTr8,awp_ret,list_same hab hI]
 ·have hne:a≠b:=λh=>hab (by rw[h]);have hab':¬(a.length:Int)=b.length:=by omega
  simp[hab',hne,awp_ret,cTr0]
deriving instance DecidableEq for Dat
deriving instance DecidableEq for Own
deriving instance DecidableEq for Lic
theorem fldsDat:Flds [0,0,0,0] (λd:Dat=>[.int .i64 d.cl,.int .i64 d.ix,.int .i64 d.day,.int .i64 d.file]) where
 len _:=rfl
 eq x y:=by obtain⟨a,b,c,d⟩:=x;obtain⟨a',b',c',d'⟩:=y;simp[V.eqL,V.eq1,Dat.mk.injEq,Bool.and_assoc,Bool.decide_and,Bool.beq_eq_decide_eq]
theorem fldsOwn:Flds [0,0,0] (λo:Own=>[.int .i64 o.party,.int .i64 o.num,.int .i64 o.den]) where
 len _:=rfl
 eq x y:=by obtain⟨a,b,c⟩:=x;obtain⟨a',b',c'⟩:=y;simp[V.eqL,V.eq1,Own.mk.injEq,Bool.and_assoc,Bool.decide_and,Bool.beq_eq_decide_eq]
theorem fldsLic:Flds [0,0,0,0] (λh:Lic=>[.int .i64 h.fr,.int .i64 h.to,.int .i64 h.fst,.int .i64 h.lst]) where
 len _:=rfl
 eq x y:=by obtain⟨a,b,c,d⟩:=x;obtain⟨a',b',c',d'⟩:=y;simp[V.eqL,V.eq1,Lic.mk.injEq,Bool.and_assoc,Bool.decide_and,Bool.beq_eq_decide_eq]
def cEr1:List GI:=[⟨none,.mv 6 (.t 0 false)⟩,⟨none,.p 7 (.alen (.t 6 false))⟩,⟨none,.mv 8 (.t 1 false)⟩,⟨none,.p 9 (.alen (.t 8 false))⟩,⟨none,.p 10 (.bin .neq (.t 7 false) (.t 9 false))⟩]
def cEr3:List GI:=[⟨none,.mv 11 (.t 0 false)⟩,⟨none,.p 12 (.alen (.t 11 false))⟩,⟨none,.mv 13 (.c (.v (.int .i64 0)))⟩]
def cEr4:List GI:=[⟨none,.p 14 (.bin .lss (.t 13 false) (.t 12 false))⟩]
def cEr5:List GI:=[⟨none,.mv 15 (.t 13 false)⟩,⟨none,.mv 5 (.t 15 false)⟩]
def cEr6 (ks:List Nat):List GI:=[⟨none,.mv 16 (.t 0 false)⟩,⟨none,.mv 17 (.t 5 false)⟩,⟨none,.p 18 (.iaddr (.t 16 false) (.t 17 false) ks.length)⟩,⟨none,.p 19 (.load (.t 18 false) ks.length true)⟩,
 ⟨none,.mv 20 (.t 1 false)⟩,⟨none,.mv 21 (.t 5 false)⟩,⟨none,.p 22 (.iaddr (.t 20 false) (.t 21 false) ks.length)⟩,⟨none,.p 23 (.load (.t 22 false) ks.length true)⟩,⟨none,.p 24 (.eqA true ks (.t 19 false) (.t 23 false))⟩]
def cEr8:List GI:=[⟨none,.p 25 (.bin .add (.t 13 false) (.c (.v (.int .i64 1))))⟩,⟨none,.mv 13 (.t 25 false)⟩]
def cEl0 (ks:List Nat):AC:= .seq (.reg cEr4 [0,1,12,13,14]) (.seq (.cond (.t 14 false) .skip (.exit 0)) (.seq (.block 1 (.seq (.reg cEr5 [0,1,5,12,13]) (.seq (.regD (cEr6 ks) [0,1,12,13,24] [[],[],[0,1],[0,1,2],[],[],[4,5],[4,5,6],[0,1,2,3,4,5,6,7]]) (.cond (.t 24 false) (.seq (.reg cTr0 [4]) .ret) .skip)))) (.reg cEr8 [0,1,12,13])))
def cE (ks:List Nat):AC:= .seq (.reg cTr0 [0,1]) (.seq (.seq (.reg cEr1 [0,1,10]) (.cond (.t 10 false) (.seq (.reg cTr0 [4]) .ret) .skip)) (.seq (.seq (.reg cEr3 [0,1,12,13]) (.block 0 (.loop (cEl0 ks)))) (.seq (.reg cTr8 [4]) .ret)))
theorem k33:chkF Tryz.prog GLx 33 2 (cE [0,0,0,0]) [.t 4]=true:=by kernel_rfl
theorem k35:chkF Tryz.prog GLx 35 2 (cE [0,0,0]) [.t 4]=true:=by kernel_rfl
theorem k36:chkF Tryz.prog GLx 36 2 (cE [0,0,0,0]) [.t 4]=true:=by kernel_rfl
theorem pEg {α:Type} [DecidableEq α] {ks:List Nat} {cs:α→List V} (F:Flds ks cs) {n:Nat} (hk:chkF Tryz.prog GLx n 2 (cE ks) [.t 4]=true) (a b:List α) (hl:a.length≤2^40):
  PSp Tryz.prog GLx n [.list (a.map λx=> .agg (cs x)),.list (b.map λx=> .agg (cs x))] [.bool (decide (a=b))]:=by
 refine psp_of_awp hk rfl ?_;simp only[cE,awp_seq,awp_reg,awp_block,awp_cond,cTr0,cEr1,entry];simp;by_cases hab:a.length=b.length
 ·simp[hab,awp_skip,cEr3];refine awp_loop_I b.length (λk s=>s=⟨[(0,.v (.list (a.map λx=> .agg (cs x)))),(1,.v (.list (b.map λx=> .agg (cs x)))),(12,.v (.int .i64 b.length)),(13,.v (.int .i64 k))],[]⟩∧∀j <k,a[j]?=b[j]?) ⟨by simp,by omega⟩ ?_;rintro k s hk ⟨rfl,hI⟩;simp only[cEl0,awp_seq,awp_reg,awp_block,awp_cond,cEr4];simp;by_cases hkl:k <b.length
  ·obtain⟨x,hx⟩:∃x,a[k]?=some x:=⟨_,List.getElem?_eq_getElem (by omega)⟩;obtain⟨y,hy⟩:∃y,b[k]?=some y:=⟨_,List.getElem?_eq_getElem hkl⟩;have w1:IntKind.i64.wrap ((k:Int)+1)=k+1:=wrap_i64 (by omega) (by omega);have hlx:=F.len x;have hly:=F.len y;have htx:(cs x).take ks.length=cs x:=List.take_of_length_le (by omega);have hty:(cs y).take ks.length=cs y:=List.take_of_length_le (by omega);have he:=F.eq x y;rw[if_pos (by omega),awp_skip];simp only[cEr5];simp;simp only[awp_regD,cEr6];simp[hx,hy,hlx,hly,htx,hty,he];by_cases e1:x=y
   ·subst e1;simp[awp_skip,cEr8,w1,hkl];intro j hj;by_cases hj2:j <k
    ·exact hI j hj2
    ·have:j=k:=by omega
     subst this;rw[hx,hy]
   ·have hne:a≠b:=by
     intro h;subst h;rw[hx]at hy;simp at hy;exact e1 hy
    simp[e1,hne,awp_ret,cTr0]
  ·have hk2:k=b.length:=by omega
   subst hk2;rw[if_neg (by omega),awp_exit];simp[cTr8,awp_ret,list_same hab hI]
 ·have hne:a≠b:=λh=>hab (by rw[h]);have hab':¬(a.length:Int)=b.length:=by omega
  simp[hab',hne,awp_ret,cTr0]
theorem c33 (a b:List Dat) (hl:a.length≤2^40):PSp Tryz.prog GLx 33 [.list (a.map Dat.V),.list (b.map Dat.V)] [.bool (decide (a=b))]:=pEg fldsDat k33 a b hl
theorem c35 (a b:List Own) (hl:a.length≤2^40):PSp Tryz.prog GLx 35 [.list (a.map Own.V),.list (b.map Own.V)] [.bool (decide (a=b))]:=pEg fldsOwn k35 a b hl
theorem c36 (a b:List Lic) (hl:a.length≤2^40):PSp Tryz.prog GLx 36 [.list (a.map Lic.V),.list (b.map Lic.V)] [.bool (decide (a=b))]:=pEg fldsLic k36 a b hl
def cmpI (a b:Int):Int:=if a <b then -1 else if b <a then 1 else 0
def cmpB (a b:Bool):Int:=if a=b then 0 else if a then 1 else -1
def orI:List Int→Int|[]=>0|x::l=>if x=0 then orI l else x
theorem cmpI0 {a b:Int}:cmpI a b=0↔a=b:=by unfold cmpI;split<;>(try split)<;>omega
theorem cmpB0 {a b:Bool}:cmpB a b=0↔a=b:=by cases a<;>cases b<;>simp[cmpB]
theorem orI0:∀l,orI l=0↔∀x∈l,x=0
 |[]=>by simp[orI]
 |x::l=>by
  have:=orI0 l;unfold orI;split<;>simp_all
theorem c171 (a:Int):PSp Tryz.prog GLx 171 [.int .i64 a] [.bool false]:=by
 refine psp_of_awp (Zkk 171) rfl ?_;simp only[Zga 171,awp_seq,awp_reg,Zge 171 0,Zge 171 1,entry];simp[awp_ret,Zgr 171]
theorem c216 (a b:Int):PSp Tryz.prog GLx 123 [.int .i64 a,.int .i64 b] [.int .i64 (cmpI a b)]:=by
 refine psp_of_awp (Zkk 123) rfl ?_;have q1:=(c171 a).fsp;have q2:=(c171 b).fsp;simp only[Zga 123,awp_seq,awp_reg,awp_cond,Zge 123 0,Zge 123 1,entry];simp;refine⟨_,_,q1 _,?_⟩;simp only[Zge 123 2];simp;refine⟨_,_,q2 _,?_⟩;simp[awp_skip,Zge 123 3,Zge 123 7,Zge 123 9];unfold cmpI;by_cases h1:a <b
 ·simp[h1,Zge 123 10,awp_ret,Zgr 123]
 ·by_cases h2:b <a
  ·simp[h1,h2,awp_skip,Zge 123 11,Zge 123 12,awp_ret,Zgr 123]
  ·simp[h1,h2,awp_skip,Zge 123 11,Zge 123 13,awp_ret,Zgr 123]
theorem c215 (l:List Int) (hl:l.length≤2^40):PSp Tryz.prog GLx 122 [nums .i64 l] [.int .i64 (orI l)]:=by
 obtain⟨R,hR⟩:∃R,orI l=R:=⟨_,rfl⟩;rw[hR];refine psp_of_awp (Zkk 122) rfl ?_;simp only[Zga 122,awp_seq,awp_reg,awp_block,awp_cond,Zge 122 0,Zge 122 1,Zge 122 2,entry,nums];simp;refine awp_loop_I l.length (λk s=>s=⟨[(3,.v (.int .i64 0)),(6,.v (.list (l.map (.int .i64)))),(7,.v (.int .i64 l.length)),(8,.v (.int .i64 k))],[]⟩∧orI (l.drop k)=R) ⟨by simp,by simpa using hR⟩ ?_;rintro k s hk ⟨rfl,hI⟩;simp only[Zgl 122 0,awp_seq,awp_reg,awp_block,awp_cond,Zge 122 3];simp;by_cases hkl:k <l.length
 ·obtain⟨x,hx⟩:∃x,l[k]?=some x:=⟨_,List.getElem?_eq_getElem hkl⟩;have w1:IntKind.i64.wrap ((k:Int)+1)=k+1:=wrap_i64 (by omega) (by omega);have hd:l.drop k=x::l.drop (k+1):=by
   obtain⟨h,rfl⟩:=List.getElem?_eq_some_iff.1 hx;exact List.drop_eq_getElem_cons h
  rw[hd]at hI;simp only[orI]at hI;rw[if_pos (by omega),awp_skip];simp[awp_skip,Zge 122 4,hx,Zge 122 5];by_cases h0:x=0
  ·rw[if_pos h0]at hI;simp[h0,awp_skip,Zge 122 7,w1,hkl,hI]
  ·rw[if_neg h0]at hI;subst hI;simp[h0,Zge 122 6,awp_ret,Zgr 122]
 ·have hk2:k=l.length:=by omega
  subst hk2;simp[orI]at hI;simp[awp_exit,Zge 122 8,awp_ret,Zgr 122,hI]
theorem c520 (a b:Bool):PSp Tryz.prog GLx 173 [.bool a,.bool b] [.int .i64 (cmpB a b)]:=by
 refine psp_of_awp (Zkk 173) rfl ?_;simp only[Zga 173,awp_seq,awp_reg,awp_block,awp_cond,Zge 173 0,Zge 173 1,entry];cases a<;>cases b<;>simp[awp_skip,Zge 173 2,Zge 173 3,Zge 173 4,Zge 173 5,awp_ret,Zgr 173,cmpB]
theorem c521 (a b c d:Int):PSp Tryz.prog GLx 174 [.agg [.int .i64 a,.int .i64 b],.agg [.int .i64 c,.int .i64 d]] [.int .i64 (orI [cmpI a c,cmpI b d])]:=by
 refine psp_of_awp (Zkk 174) rfl ?_;have q1:=c216 a c;have q2:=c216 b d;have q3:=c215 [cmpI a c,cmpI b d] (by simp);simp only[nums]at q3;simp only[Zga 174,awp_seq,awp_reg,Zge 174 0,entry];simp;simp only[awp_regD,Zge 174 1];simp;refine⟨_,_,⟨rfl,rfl⟩,_,q1,?_⟩;simp;refine⟨_,_,⟨rfl,rfl⟩,_,q2,?_⟩;simp;refine⟨_,_,⟨rfl,rfl⟩,_,q3,?_⟩;simp[awp_ret,Zgr 174]
def Ivl.cmp (x y:Ivl):Int:=orI [cmpB x.li y.li,cmpB x.lo y.lo,orI [cmpI x.ln y.ln,cmpI x.ld y.ld],cmpB x.hi y.hi,cmpB x.ho y.ho,orI [cmpI x.hn y.hn,cmpI x.hd y.hd]]
theorem Ivl.cmp0 {x y:Ivl}:x.cmp y=0↔x=y:=by
 obtain⟨a,b,c,d,e,f,g,h⟩:=x;obtain⟨a',b',c',d',e',f',g',h'⟩:=y;simp[Ivl.cmp,orI0,cmpI0,cmpB0]
 constructor
 ·rintro⟨h1,h2,⟨h3,h4⟩,h5,h6,h7,h8⟩;simp[*]
 ·rintro⟨h1,h2,h3,h4,h5,h6,h7,h8⟩;simp[*]
set_option maxHeartbeats 4000000 in
theorem c500 (x y:Ivl):PSp Tryz.prog GLx 125 [x.V,y.V] [.int .i64 (x.cmp y)]:=by
 refine psp_of_awp (Zkk 125) rfl ?_;have q1:=c520 x.li y.li;have q2:=c520 x.lo y.lo;have q3:=c521 x.ln x.ld y.ln y.ld;have q4:=c520 x.hi y.hi;have q5:=c520 x.ho y.ho;have q6:=c521 x.hn x.hd y.hn y.hd;have q7:=c215 [cmpB x.li y.li,cmpB x.lo y.lo,orI [cmpI x.ln y.ln,cmpI x.ld y.ld],cmpB x.hi y.hi,cmpB x.ho y.ho,orI [cmpI x.hn y.hn,cmpI x.hd y.hd]] (by simp);simp only[nums]at q7;unfold Ivl.cmp;generalize orI [cmpB x.li y.li,cmpB x.lo y.lo,orI [cmpI x.ln y.ln,cmpI x.ld y.ld],cmpB x.hi y.hi,cmpB x.ho y.ho,orI [cmpI x.hn y.hn,cmpI x.hd y.hd]]=R at*;generalize orI [cmpI x.ln y.ln,cmpI x.ld y.ld]=r1 at*;generalize orI [cmpI x.hn y.hn,cmpI x.hd y.hd]=r2 at*;simp only[Zga 125,awp_seq,awp_reg,Zge 125 0,entry,Ivl.V];simp;simp only[awp_regD,Zge 125 1];simp;refine⟨_,_,⟨rfl,rfl⟩,_,q1,?_⟩;simp;refine⟨_,_,⟨rfl,rfl⟩,_,q2,?_⟩;simp;refine⟨_,_,⟨rfl,rfl⟩,_,q3,?_⟩;simp;refine⟨_,_,⟨rfl,rfl⟩,_,q4,?_⟩;simp;refine⟨_,_,⟨rfl,rfl⟩,_,q5,?_⟩;simp;refine⟨_,_,⟨rfl,rfl⟩,_,q6,?_⟩;simp;refine⟨_,_,⟨rfl,rfl⟩,_,q7,?_⟩;simp[awp_ret,Zgr 125]
def cmpL {α:Type} (f:α→α→Int):List α→List α→Int
 |[],[]=>0
 |[],_::_=> -1
 |_::_,[]=>1
 |x::xs,y::ys=>if f x y=0 then cmpL f xs ys else f x y
theorem cmpL0 {α:Type} {f:α→α→Int}:∀ {xs ys:List α},(∀x∈xs,∀y∈ys,(f x y=0↔x=y))→(cmpL f xs ys=0↔xs=ys)
 |[],[],_=>by simp[cmpL]
 |[],_::_,_=>by simp[cmpL]
 |_::_,[],_=>by simp[cmpL]
 |x::xs,y::ys,h=>by
  have h1:=h x List.mem_cons_self y List.mem_cons_self;have ih:=cmpL0 (f:=f) (xs:=xs) (ys:=ys) λa ha b hb=>h a (List.mem_cons_of_mem _ ha) b (List.mem_cons_of_mem _ hb);unfold cmpL;by_cases h0:f x y=0
  ·rw[if_pos h0,ih];simp[h1.1 h0]
  ·rw[if_neg h0]
   constructor
   ·intro h;exact absurd h h0
   ·intro h;simp only[List.cons.injEq]at h;exact absurd (h1.2 h.1) h0
theorem cmpL_both {α:Type} {f:α→α→Int} {a b:List α} {k:Nat} {x y:α} (hx:a[k]?=some x) (hy:b[k]?=some y):
  cmpL f (a.drop k) (b.drop k)=if f x y=0 then cmpL f (a.drop (k+1)) (b.drop (k+1)) else f x y:=by
 obtain⟨h,rfl⟩:=List.getElem?_eq_some_iff.1 hx;obtain⟨h',rfl⟩:=List.getElem?_eq_some_iff.1 hy;rw[List.drop_eq_getElem_cons h,List.drop_eq_getElem_cons h'];rfl
theorem cmpL_left {α:Type} {f:α→α→Int} {a b:List α} {k:Nat} {x:α} (hx:a[k]?=some x) (hy:b.length≤k):cmpL f (a.drop k) (b.drop k)=1:=by
 obtain⟨h,rfl⟩:=List.getElem?_eq_some_iff.1 hx;rw[List.drop_eq_getElem_cons h,List.drop_eq_nil_of_le hy];rfl
theorem cmpL_end {α:Type} {f:α→α→Int} {a b:List α}:cmpL f (a.drop a.length) (b.drop a.length)=if a.length <b.length then -1 else 0:=by
 rw[List.drop_eq_nil_of_le (Nat.le_refl _)];by_cases h:a.length <b.length
 ·rw[if_pos h,List.drop_eq_getElem_cons h];rfl
 ·rw[if_neg h,List.drop_eq_nil_of_le (by omega)];rfl
theorem c519 (g:Ivl→Ivl→Int) (a b:List Ivl) (hl:a.length≤2^40) (hb:b.length≤2^40) (hq:∀x∈a,∀y∈b,PSp Tryz.prog GLx 125 [x.V,y.V] [.int .i64 (g x y)]):
  PSp Tryz.prog GLx 172 [.list (a.map Ivl.V),.list (b.map Ivl.V),.func 125 []] [.int .i64 (cmpL g a b)]:=by
 obtain⟨R,hR⟩:∃R,cmpL g a b=R:=⟨_,rfl⟩;rw[hR];refine psp_of_awp (Zkk 172) rfl ?_;simp only[Zga 172,awp_seq,awp_reg,awp_block,awp_cond,Zge 172 0,Zge 172 1,entry];simp;refine awp_loop_I a.length (λk s=>∃H,s=⟨[(0,.v (.list (a.map Ivl.V))),(1,.v (.list (b.map Ivl.V))),(2,.v (.func 125 [])),(11,.v (.list (a.map Ivl.V))),(12,.v (.int .i64 a.length)),(13,.v (.int .i64 k))],H⟩∧cmpL g (a.drop k) (b.drop k)=R) ⟨[],by simp,by simpa using hR⟩ ?_;rintro k s hk ⟨H,rfl,hI⟩;simp only[Zgl 172 0,awp_seq,awp_reg,awp_block,awp_cond,Zge 172 2];simp;by_cases hkl:k <a.length
 ·obtain⟨x,hx⟩:∃x,a[k]?=some x:=⟨_,List.getElem?_eq_getElem hkl⟩;have w1:IntKind.i64.wrap ((k:Int)+1)=k+1:=wrap_i64 (by omega) (by omega);rw[if_pos (by omega),awp_skip];simp[awp_skip,Zge 172 3,hx,Ivl.V,Zge 172 4,putL];by_cases hkb:k <b.length
  ·obtain⟨y,hy⟩:∃y,b[k]?=some y:=⟨_,List.getElem?_eq_getElem hkb⟩;have q:=hq x (List.mem_of_getElem? hx) y (List.mem_of_getElem? hy);rw[cmpL_both hx hy]at hI;obtain⟨r,hr⟩:∃r,g x y=r:=⟨_,rfl⟩;rw[hr]at hI q;simp only[Ivl.V]at q;rw[if_neg (by omega)];simp[awp_skip,Zge 172 6,hy,Ivl.V,Zge 172 7,putL];refine⟨_,_,q.fsp _,?_⟩;simp[Zge 172 8];by_cases h0:r=0
   ·rw[if_pos h0]at hI;simp[h0,awp_skip,Zge 172 10,w1,hkl,hI]
   ·rw[if_neg h0]at hI;subst hI;simp[h0,Zge 172 9,awp_ret,Zgr 172]
  ·rw[cmpL_left hx (by omega)]at hI;subst hI;rw[if_pos (by omega)];simp[Zge 172 5,awp_ret,Zgr 172]
 ·have hk2:k=a.length:=by omega
  subst hk2;rw[cmpL_end]at hI;subst hI;by_cases hab:a.length <b.length
  ·simp[awp_exit,Zge 172 11,hab,Zge 172 12,awp_ret,Zgr 172]
  ·simp[awp_exit,Zge 172 11,hab,awp_skip,Zge 172 13,awp_ret,Zgr 172]
theorem c499 (a b:List Ivl) (hl:a.length≤2^40) (hb:b.length≤2^40):
  PSp Tryz.prog GLx 124 [.list (a.map Ivl.V),.list (b.map Ivl.V),.func 125 []] [.int .i64 (orI [cmpI a.length b.length,cmpL Ivl.cmp a b])]:=by
 refine psp_of_awp (Zkk 124) rfl ?_;have q1:=(c216 a.length b.length).fsp;have q2:=(c519 Ivl.cmp a b hl hb λx _ y _=>c500 x y).fsp;have q3:=(c215 [cmpI a.length b.length,cmpL Ivl.cmp a b] (by simp)).fsp;simp only[nums]at q3;generalize cmpL Ivl.cmp a b=R at*;simp only[Zga 124,awp_seq,awp_reg,Zge 124 0,Zge 124 1,entry];simp;refine⟨_,_,q1 _,?_⟩;simp;refine⟨_,_,q2 _,?_⟩;simp;refine⟨_,_,q3 _,?_⟩;simp[awp_ret,Zgr 124]
theorem c522 (g:F→F→Int) (a b:List F) (hl:a.length≤2^40) (hb:b.length≤2^40) (hq:∀x∈a,∀y∈b,PSp Tryz.prog GLx 86 [x.V,y.V] [.int .i64 (g x y)]):
  PSp Tryz.prog GLx 175 [.list (a.map F.V),.list (b.map F.V),.func 86 []] [.int .i64 (cmpL g a b)]:=by
 obtain⟨R,hR⟩:∃R,cmpL g a b=R:=⟨_,rfl⟩;rw[hR];refine psp_of_awp (Zkk 175) rfl ?_;simp only[Zga 175,awp_seq,awp_reg,awp_block,awp_cond,Zge 175 0,Zge 175 1,entry];simp;refine awp_loop_I a.length (λk s=>∃H,s=⟨[(0,.v (.list (a.map F.V))),(1,.v (.list (b.map F.V))),(2,.v (.func 86 [])),(11,.v (.list (a.map F.V))),(12,.v (.int .i64 a.length)),(13,.v (.int .i64 k))],H⟩∧cmpL g (a.drop k) (b.drop k)=R) ⟨[],by simp,by simpa using hR⟩ ?_;rintro k s hk ⟨H,rfl,hI⟩;simp only[Zgl 175 0,awp_seq,awp_reg,awp_block,awp_cond,Zge 175 2];simp;by_cases hkl:k <a.length
 ·obtain⟨x,hx⟩:∃x,a[k]?=some x:=⟨_,List.getElem?_eq_getElem hkl⟩;have w1:IntKind.i64.wrap ((k:Int)+1)=k+1:=wrap_i64 (by omega) (by omega);have hxV:x.V= .agg [.int .i64 x.op,.int .i64 x.n,.list (x.ins.map Ivl.V),.list (x.kids.map F.V)]:=by
   obtain⟨op,n,ins,kids⟩:=x;exact F.V_eq ..
  rw[if_pos (by omega),awp_skip];simp[awp_skip,Zge 175 3,hx,hxV,Zge 175 4,putL];by_cases hkb:k <b.length
  ·obtain⟨y,hy⟩:∃y,b[k]?=some y:=⟨_,List.getElem?_eq_getElem hkb⟩;have q:=hq x (List.mem_of_getElem? hx) y (List.mem_of_getElem? hy);rw[cmpL_both hx hy]at hI;obtain⟨r,hr⟩:∃r,g x y=r:=⟨_,rfl⟩;rw[hr]at hI q;have hyV:y.V= .agg [.int .i64 y.op,.int .i64 y.n,.list (y.ins.map Ivl.V),.list (y.kids.map F.V)]:=by
    obtain⟨op,n,ins,kids⟩:=y;exact F.V_eq ..
   rw[hxV,hyV]at q;rw[if_neg (by omega)];simp[awp_skip,Zge 175 6,hy,hyV,Zge 175 7,putL];refine⟨_,_,q.fsp _,?_⟩;simp[Zge 175 8];by_cases h0:r=0
   ·rw[if_pos h0]at hI;simp[h0,awp_skip,Zge 175 10,w1,hkl,hI]
   ·rw[if_neg h0]at hI;subst hI;simp[h0,Zge 175 9,awp_ret,Zgr 175]
  ·rw[cmpL_left hx (by omega)]at hI;subst hI;rw[if_pos (by omega)];simp[Zge 175 5,awp_ret,Zgr 175]
 ·have hk2:k=a.length:=by omega
  subst hk2;rw[cmpL_end]at hI;subst hI;by_cases hab:a.length <b.length
  ·simp[awp_exit,Zge 175 11,hab,Zge 175 12,awp_ret,Zgr 175]
  ·simp[awp_exit,Zge 175 11,hab,awp_skip,Zge 175 13,awp_ret,Zgr 175]
theorem c501 (g:F→F→Int) (a b:List F) (hl:a.length≤2^40) (hb:b.length≤2^40) (hq:∀x∈a,∀y∈b,PSp Tryz.prog GLx 86 [x.V,y.V] [.int .i64 (g x y)]):
  PSp Tryz.prog GLx 126 [.list (a.map F.V),.list (b.map F.V),.func 86 []] [.int .i64 (orI [cmpI a.length b.length,cmpL g a b])]:=by
 refine psp_of_awp (Zkk 126) rfl ?_;have q1:=(c216 a.length b.length).fsp;have q2:=(c522 g a b hl hb hq).fsp;have q3:=(c215 [cmpI a.length b.length,cmpL g a b] (by simp)).fsp;simp only[nums]at q3;generalize cmpL g a b=R at*;simp only[Zga 126,awp_seq,awp_reg,Zge 126 0,Zge 126 1,entry];simp;refine⟨_,_,q1 _,?_⟩;simp;refine⟨_,_,q2 _,?_⟩;simp;refine⟨_,_,q3 _,?_⟩;simp[awp_ret,Zgr 126]
def F.brief (f:F):Prop:=∀g∈f.nodes,g.ins.length≤2^20∧g.kids.length≤2^20
theorem F.brief_kid {op n:Int} {ins:List Ivl} {kids:List F} (h:(F.mk op n ins kids).brief) {x:F} (hx:x∈kids):x.brief:=
 λg hg=>h g (by rw[F.nodes_eq];exact List.mem_cons_of_mem _ (List.mem_flatMap.2 ⟨x,hx,hg⟩))
theorem F.brief_top {f:F} (h:f.brief):f.ins.length≤2^20∧f.kids.length≤2^20:=
 h f (by obtain⟨op,n,ins,kids⟩:=f;rw[F.nodes_eq];exact List.mem_cons_self)
set_option maxHeartbeats 4000000 in
theorem c469 (f:F):∀g:F,f.brief→g.brief→∃c:Int,PSp Tryz.prog GLx 86 [f.V,g.V] [.int .i64 c]∧(c=0↔f=g):=by
 induction f using F.ind with
 |h op n ins kids ih=>
  intro g hf hg;obtain⟨op',n',ins',kids'⟩:=g;have hf0:=F.brief_top hf;have hg0:=F.brief_top hg;simp only[F.ins,F.kids]at hf0 hg0;obtain⟨G,hG⟩:∃G:F→F→Int,∀x∈kids,∀y∈kids',PSp Tryz.prog GLx 86 [x.V,y.V] [.int .i64 (G x y)]∧(G x y=0↔x=y):=by
   classical
   refine⟨λx y=>if h:x∈kids∧y∈kids' then Classical.choose (ih x h.1 y (F.brief_kid hf h.1) (F.brief_kid hg h.2)) else 0,λx hx y hy=>?_⟩;have h:x∈kids∧y∈kids':=⟨hx,hy⟩;simp only[h,and_self,dite_true];exact Classical.choose_spec (ih x h.1 y (F.brief_kid hf h.1) (F.brief_kid hg h.2))
  have q1:=c216 op op';have q2:=c216 n n';have q3:=(c499 ins ins' (by omega) (by omega)).fsp;have q4:=c215 [cmpI op op',cmpI n n',orI [cmpI ins.length ins'.length,cmpL Ivl.cmp ins ins']] (by simp);have q5:=(c501 G kids kids' (by omega) (by omega) λx hx y hy=>(hG x hx y hy).1).fsp;have e4:orI [cmpI op op',cmpI n n',orI [cmpI ins.length ins'.length,cmpL Ivl.cmp ins ins']]=0↔op=op'∧n=n'∧ins=ins':=by
   simp only[orI0,List.mem_cons,List.not_mem_nil,or_false,forall_eq_or_imp,forall_eq,cmpI0,cmpL0 λx _ y _=>Ivl.cmp0]
   constructor
   ·rintro⟨h1,h2,h3,h4⟩;exact⟨h1,h2,h4⟩
   ·rintro⟨h1,h2,rfl⟩;exact⟨h1,h2,rfl,rfl⟩
  have e5:orI [cmpI kids.length kids'.length,cmpL G kids kids']=0↔kids=kids':=by
   simp only[orI0,List.mem_cons,List.not_mem_nil,or_false,forall_eq_or_imp,forall_eq,cmpI0,cmpL0 λx hx y hy=>(hG x hx y hy).2]
   constructor
   ·rintro⟨h1,h2⟩;exact h2
   ·rintro rfl;exact⟨rfl,rfl⟩
  have fin:PSp Tryz.prog GLx 86 [(F.mk op n ins kids).V,(F.mk op' n' ins' kids').V] [.int .i64 (orI [orI [cmpI op op',cmpI n n',orI [cmpI ins.length ins'.length,cmpL Ivl.cmp ins ins']],orI [cmpI kids.length kids'.length,cmpL G kids kids']])]:=by
   refine psp_of_awp (Zkk 86) rfl ?_;simp only[nums]at q4;clear e4 e5 ih hG;generalize orI [cmpI op op',cmpI n n',orI [cmpI ins.length ins'.length,cmpL Ivl.cmp ins ins']]=A at*;generalize orI [cmpI kids.length kids'.length,cmpL G kids kids']=B at*;generalize orI [cmpI ins.length ins'.length,cmpL Ivl.cmp ins ins']=C at*;simp only[Zga 86,awp_seq,awp_reg,awp_cond,Zge 86 0,entry,F.V_eq];simp;simp only[awp_regD,Zge 86 1];simp;refine⟨_,_,⟨rfl,rfl⟩,_,q1,?_⟩;simp;refine⟨_,_,⟨rfl,rfl⟩,_,q2,?_⟩;simp;refine⟨_,_,q3 _,?_⟩;simp;refine⟨_,_,⟨rfl,rfl⟩,_,q4,?_⟩;simp[Zge 86 2];by_cases hA:A=0
   ·simp[hA,awp_skip,Zge 86 4];refine⟨_,_,q5 _,?_⟩;simp[awp_ret,Zgr 86,orI]
   ·simp[hA,Zge 86 3,awp_ret,Zgr 86,orI]
  refine⟨_,fin,?_⟩;rw[orI0];simp only[List.mem_cons,List.not_mem_nil,or_false,forall_eq_or_imp,forall_eq,e4,e5,F.mk.injEq]
  constructor
  ·rintro⟨⟨h1,h2,h3⟩,h4⟩;exact⟨h1,h2,h3,h4⟩
  ·rintro⟨h1,h2,h3,h4⟩;exact⟨⟨h1,h2,h3⟩,h4⟩
def mkA (a b:F):F:= .mk 4 0 [] (partsF a++partsF b)
def altC (acc:List (List F)) (c:Clm):List F:=if c.refs=[] then c.body.tops else c.refs.flatMap λr=>((acc[r.toNat]?).getD []).flatMap λa=>c.body.tops.map λb=>mkA a b
def altL (l:List Clm):List (List F):=l.foldl (λacc c=>acc++[altC acc c]) []
def altAt (l:List Clm) (i:Int):List F:=((altL l)[i.toNat]?).getD []
theorem p92 (a b:List Int) (hl:a.length≤2^40):PSp Tryz.prog GLx 34 [nums .i64 a,nums .i64 b] [.bool (decide (a=b))]:=by
 refine psp_of_awp (Zkk 34) rfl ?_;simp only[Zga 34,awp_seq,awp_reg,awp_block,awp_cond,Zge 34 0,Zge 34 1,entry,nums];simp;by_cases hab:a.length=b.length
 ·simp[hab,awp_skip,Zge 34 3];refine awp_loop_I b.length (λk s=>s=⟨[(0,.v (.list (a.map (.int .i64)))),(1,.v (.list (b.map (.int .i64)))),(12,.v (.int .i64 b.length)),(13,.v (.int .i64 k))],[]⟩∧∀j <k,a[j]?=b[j]?) ⟨by simp,by omega⟩ ?_;rintro k s hk ⟨rfl,hI⟩;simp only[Zgl 34 0,awp_seq,awp_reg,awp_block,awp_cond,Zge 34 4];simp;by_cases hkl:k <b.length
  ·obtain⟨x,hx⟩:∃x,a[k]?=some x:=⟨_,List.getElem?_eq_getElem (by omega)⟩;obtain⟨y,hy⟩:∃y,b[k]?=some y:=⟨_,List.getElem?_eq_getElem hkl⟩;have w1:IntKind.i64.wrap ((k:Int)+1)=k+1:=wrap_i64 (by omega) (by omega);rw[if_pos (by omega),awp_skip];simp only[Zge 34 5];simp;simp only[awp_regD,Zge 34 6];simp[hx,hy];by_cases e1:x=y
   ·subst e1;simp[awp_skip,Zge 34 8,w1,hkl];intro j hj;by_cases hj2:j <k
    ·exact hI j hj2
    ·have:j=k:=by omega
     subst this;rw[hx,hy]
   ·have hne:a≠b:=by
     intro h;subst h;rw[hx]at hy;simp at hy;exact e1 hy
    simp[e1,hne,Zge 34 7,awp_ret,Zgr 34]
  ·have hk2:k=b.length:=by omega
   subst hk2;have he:a=b:=by
    apply List.ext_getElem?;intro j;by_cases hj:j <b.length
    ·exact hI j hj
    ·rw[List.getElem?_eq_none (by omega),List.getElem?_eq_none (by omega)]
   rw[if_neg (by omega),awp_exit];simp[Zge 34 9,awp_ret,Zgr 34,he]
 ·have hne:a≠b:=λh=>hab (by rw[h]);have hab':¬(a.length:Int)=b.length:=by omega
  simp[hab',hne,Zge 34 2,awp_ret,Zgr 34]
theorem put1 (W:List Int) {i:Nat} (hi:i <W.length) (d:Int) (kz:Nat):putL ((W.map (V.int .u8)).map D.v++List.replicate kz D.any) i [.v (.int .u8 d)]=((W.set i d).map (V.int .u8)).map D.v++List.replicate kz D.any:=by
 have h1:putL ((W.map (V.int .u8)).map D.v++List.replicate kz D.any) i [.v (.int .u8 d)]=((W.map (V.int .u8)).map D.v++List.replicate kz D.any).set i (.v (.int .u8 d)):=by
  rw[List.set_eq_take_append_cons_drop,if_pos (by simp;omega)];simp[putL]
 rw[h1,List.set_append_left _ _ (by simpa using hi)];simp
theorem p4t:FSp Tryz.prog GLx 50 [] [] [.ref 0 0] [txR (fillN 6 zb)]:=by
 refine fsp_low (Zkk 50) rfl (by simp) ?_ ?_ ?_
 ·intro row hrow;simp only[List.mem_singleton]at hrow;subst hrow;simp only[txR,Row.low];refine lts_all λd hd=>?_;rcases List.mem_cons.1 hd with rfl|hd
  ·rfl
  ·obtain⟨b,-,rfl⟩:=List.mem_map.1 hd;rfl
 ·intro d hd;simp only[List.mem_singleton]at hd;subst hd;rfl
 have q1:=p16.fsp;have q2:=p46;have e:parentsV= .list (par6.map (nums .i64)):=rfl;rw[e]at q1;have hJ:∃J,rowsF (fillN 6 zb) (tfs 6) (tfs 6)=[txR (fillN 6 zb)]++J:=⟨_,rfl⟩;generalize rowsF (fillN 6 zb) (tfs 6) (tfs 6)=HH at*;generalize txR (fillN 6 zb)=TX at*;generalize par6=par at*;simp at q1 hJ;simp only[Zga 50,awp_seq,awp_reg,awp_cond,Zge 50 0,Zge 50 1,entryD];simp;refine⟨_,_,(q1 _),?_⟩;simp;refine⟨_,_,q2,?_⟩;simp[Zge 50 2,awp_skip,Zge 50 4,awp_ret,Zgr 50,hJ]
theorem Inv.row1 {g:Gh} {w:World} {μ:List Nat} {t:Nat→D} {u:Nat→Value} {ds:List D} {O:Nat→Prop} (hi:Inv g w μ t u [.cells ds] O) (k:Nat):Inv g w μ t u [.cells ((ds.map D.copy).take k)] O:=by
 have hblk:∀p b,blk t u [.cells ((ds.map D.copy).take k)] w μ p=some b→blk t u [.cells ds] w μ p=some b:=by
  intro p b hp;cases p with
  |tmp n k=>exact hp
  |cell r j=>
   exfalso;simp only[blk,cellD]at hp;cases r with
   |zero=>
    simp only[List.getElem?_cons_zero,List.getElem?_take,List.getElem?_map]at hp;split at hp
    ·cases hd:ds[j]? with
     |none=>rw[hd]at hp;simp[own1]at hp
     |some d=>
      rw[hd]at hp;simp only[Option.map_some,Option.getD_some,own1_copy]at hp;cases hp
    ·simp[own1]at hp
   |succ r=>simp[own1]at hp
 refine⟨hi.agree,hi.olt,hi.rep,by have:=hi.len;simpa using this,λr row b hr hb=>?_,hi.nod,hi.mo,λp q b hp hq=>hi.uniq p q b (hblk p b hp) (hblk q b hq),λp b hp=>hi.sep p b (hblk p b hp)⟩;cases r with
 |zero=>
  simp only[List.getElem?_cons_zero,Option.some.injEq]at hr;subst hr;obtain⟨vs,T,hb',ha,h1,hg⟩:=hi.rows 0 _ b rfl hb;refine⟨vs,T,hb',⟨?_,λi x v hx hv=>?_⟩,h1,hg⟩
  ·have:=ha.1;simp only[List.length_take,List.length_map];omega
  ·rw[List.getElem?_take]at hx;split at hx
   ·rw[List.getElem?_map,Option.map_eq_some_iff]at hx;obtain⟨y,hy,rfl⟩:=hx;have h2:=ha.2 i y v hy hv;cases y with
    |own e s xs=>exact(RepD.copy (μ:=μ) (w:=w) (d:= .own e s xs) h2)
    |pend b e s xs=>trivial
    |tup ds=>trivial
    |_=>exact h2
   ·cases hx
 |succ r=>simp at hr
theorem FSp.row1 {P:Program} {GL:Globals} {f:Nat} {args rets:List D} {h:List Row} {ds:List D} (hf:FSp P GL f args h rets [.cells ds]) (k:Nat):FSp P GL f args h rets [.cells ((ds.map D.copy).take k)]:=by
 refine⟨hf.1,λg w μ us O hinv hgl hall htame=>(hf.2 g w μ us O hinv hgl hall htame).mono ?_⟩;rintro e w' ⟨v,g',μ',rfl,h3,h4⟩;exact⟨v,g',μ',rfl,h3.row1 k,h4⟩
def vXs:List V:=vL [vL [],vL [0],vL [0],vL [1,2],vL [],vL [4]]::bX 326 0
theorem vX_eq:V.beqs (.list (par6.map (nums .i64))::((fillN 6 zb).take 326).map .bool) vXs=true:=by kernel_rfl
theorem p4v:PSp Tryz.prog GLx 50 [] [vX]:=by
 have h1:=p4t.row1 327;have e:((parD::(fillN 6 zb).map bv).map D.copy).take 327=vXs.map .v:=by
  rw[←V.beqs_eq vX_eq];have:parD.copy= .v (.list (par6.map (nums .i64))):=rfl;rw[List.map_cons,this,List.take_succ_cons,List.map_cons,List.map_map,List.map_map,←List.map_take];generalize (fillN 6 zb).take 326=l
  congr 1
 have h2:FSp Tryz.prog GLx 50 [] [] [.ref 0 0] [.cells (vXs.map .v)]:=by rw[←e];exact h1
 have h3:=h2.ptrR (cs:=vXs) rfl;refine psp_of_fsp (args:=[]) (rets:=[vX]) ?_;exact FSp.trim (h':=[]) (J:=[.dead]) h3 (Nat.le_refl _) (by intro row h;cases h) (by intro d hd;simp at hd;subst hd;rfl)
open Go.Proofs Go.Shelf
def rnG:Ren:=⟨λ|4=>390|n=>n,λ|22=>68|25=>70|n=>n,λn=>n⟩
def rnI:Ren:=⟨λ|4=>571|n=>n,λ|25=>3|n=>n,λn=>n⟩
theorem layG:Lays8.n4 Tryz.prog rnG where
 mixed:=by kernel_rfl
 f4:=⟨Tryz.f390.name,by kernel_rfl,Tryz.func390.trans (congrArg some (by kernel_rfl))⟩
 t0:=Tryz.underlying0
 a0:=Tryz.isAgg0
 z0:=Tryz.sizeOf0
 v0:=Tryz.zeroValue0
 t3:=Tryz.underlying3
 a3:=Tryz.isAgg3
 z3:=Tryz.sizeOf3
 v3:=Tryz.zeroValue3
 t4:=Tryz.underlying4
 a4:=Tryz.isAgg4
 z4:=Tryz.sizeOf4
 v4:=Tryz.zeroValue4
 t9:=Tryz.underlying9
 a9:=Tryz.isAgg9
 z9:=Tryz.sizeOf9
 v9:=Tryz.zeroValue9
 t20:=Tryz.underlying20
 a20:=Tryz.isAgg20
 z20:=Tryz.sizeOf20
 v20:=Tryz.zeroValue20
 t22:=Tryz.underlying68
 a22:=Tryz.isAgg68
 z22:=Tryz.sizeOf68
 v22:=Tryz.zeroValue68
theorem layI:Lays8.n4 Tryz.prog rnI where
 mixed:=by kernel_rfl
 f4:=⟨Tryz.f571.name,by kernel_rfl,Tryz.func571.trans (congrArg some (by kernel_rfl))⟩
 t0:=Tryz.underlying0
 a0:=Tryz.isAgg0
 z0:=Tryz.sizeOf0
 v0:=Tryz.zeroValue0
 t3:=Tryz.underlying3
 a3:=Tryz.isAgg3
 z3:=Tryz.sizeOf3
 v3:=Tryz.zeroValue3
 t4:=Tryz.underlying4
 a4:=Tryz.isAgg4
 z4:=Tryz.sizeOf4
 v4:=Tryz.zeroValue4
 t9:=Tryz.underlying9
 a9:=Tryz.isAgg9
 z9:=Tryz.sizeOf9
 v9:=Tryz.zeroValue9
 t20:=Tryz.underlying20
 a20:=Tryz.isAgg20
 z20:=Tryz.sizeOf20
 v20:=Tryz.zeroValue20
 t22:=Tryz.underlying22
 a22:=Tryz.isAgg22
 z22:=Tryz.sizeOf22
 v22:=Tryz.zeroValue22
def infoB (e s:Nat):Bool:=match Tryz.prog.info? e with|some i=>(match i.zero with|some z=>i.size==s&&z.cells.size==s&&decide (i.bytes≤64)|none=>false)|none=>false
theorem infoB_ok {e s:Nat} (hk:infoB e s=true):∃i z,Tryz.prog.info? e=some i∧i.zero=some z∧i.size=s∧z.cells.size=s∧i.bytes≤64:=by
 unfold infoB at hk;cases hi:Tryz.prog.info? e with
 |none=>rw[hi]at hk;cases hk
 |some i=>
  rw[hi]at hk;simp only at hk;cases hz:i.zero with
  |none=>rw[hz]at hk;cases hk
  |some z=>
   rw[hz]at hk;simp only[Bool.and_eq_true,beq_iff_eq,decide_eq_true_eq]at hk;exact⟨i,z,rfl,hz,hk.1.1,hk.1.2,hk.2⟩
theorem growG {rn:Ren} (lay:Lays8.n4 Tryz.prog rn) {f e s:Nat} (hf:rn.f 4=f) (he:rn.t 25=e) (hi0:infoB e s=true) (hs:0 <s) (hg:¬NoGrow e) (ht:okF Tryz.prog f=true) (n:Nat) (hn:n≤2^30) (h:List Row):
  FSp Tryz.prog GLx f [.nil e s,.v (.int .i64 n)] h [.own e s []] h:=by
 subst hf;refine⟨ht,λg w μ us O hinv hgl hall htame=>?_⟩;obtain⟨hlen,hget⟩:=hall;obtain⟨u,v,rfl⟩:∃u v,us=[u,v]:=by
  match us,hlen with
  |[u,v],_=>exact⟨u,v,rfl⟩
 have hu:RepE g w μ (.nil e s) u:=hget 0 _ u rfl rfl;have hv:RepV g (.int .i64 n) v:=hget 1 (.v (.int .i64 n)) v rfl rfl;obtain⟨a,rfl,ha⟩:=hu;cases hv;rcases Nat.eq_zero_or_pos n with rfl|hpos
 ·have c:=Any8.slices_Grow_room lay a 0 0 0 w (by omega) (by omega) (by omega) (by omega);refine Calls.mono c ?_;rintro e w' ⟨rfl,rfl⟩;have hc:Chg (λ_=>False) g w' g w':=⟨Gh.le.refl g,Nat.le_refl _,λ_ _ _=>rfl,λ_ _ _ _=>rfl,rfl,rfl⟩;exact⟨_,g,μ,rfl,hinv.newOwn (d:=0) hc hinv.agree (.inl ⟨a,rfl,rfl,ha⟩) (λ_ _=>⟨a,rfl⟩) (by intro b hb;cases a<;>simp[own1]at hb),hc.mono λ_ h=>h.elim,List.prefix_refl _⟩
 ·obtain⟨i0,z,hi0,hz0,hs0,hzc,hby⟩:=infoB_ok hi0;have c:=Any8.slices_Grow_grow lay i0 z (he▸hi0) hz0 (by omega) a 0 0 n [] w (by omega) (by omega) (by
   have:(0+n)*i0.bytes≤2^30*64:=Nat.mul_le_mul (by omega) hby;omega) (by omega) (by simp) (λ_=>rfl) (by simp)
  refine Calls.mono c ?_;rintro e' w' ⟨rfl,rfl⟩;have hG:=grownCap_ge w (0+n) 0 (rn.t 25);generalize grownCap w (0+n) 0 (rn.t 25)=G at hG ⊢;rw[he];have hsz:(#[]++Builtin.zeroCells z.cells (0+n-0)++Builtin.zeroCells z.cells (G-(0+n))).size=G*s:=by
   simp only[Array.size_append,size_zeroCells,hzc,Array.size_empty];rw[Nat.zero_add,←Nat.add_mul]
   congr 1;omega
  have hsz':([].toArray++Builtin.zeroCells z.cells (0+n-0)++Builtin.zeroCells z.cells (G-(0+n))).size=G*s:=hsz;generalize [].toArray++Builtin.zeroCells z.cells (0+n-0)++Builtin.zeroCells z.cells (G-(0+n))=arr at hsz' ⊢;have hold:∀b,b <w.heap.size→∀x,(w.heap.push x)[b]?=w.heap[b]?:=λb hb x=>by rw[Array.getElem?_push,if_neg (by omega)]
  have hagree:∀b o v,g.m b o=some v→b <w.heap.size:=by
   intro b o v hv;have h2:=hinv.agree b o v hv;rcases Nat.lt_or_ge b w.heap.size with h'|h'
   ·exact h'
   ·simp[World.cell?,Array.getElem?_eq_none h']at h2
  have hc:Chg (λ_=>False) g w g (w.drew.alloc (.cells arr e)):=⟨Gh.le.refl g,by show w.heap.size≤(w.heap.push _).size;rw[Array.size_push];omega,λb hb _=>hold b hb _,λ_ _ _ _=>rfl,rfl,rfl⟩;refine⟨_,g,μ,rfl,hinv.newOwn (d:=0) (e:=e) (s:=s) (xs:=[]) hc (λb o v hv=>?_) (.inr ⟨w.heap.size,G,arr,λ_=> .bool false,rfl,by omega,by show (w.heap.push _)[w.heap.size]?=_;rw[Array.getElem?_push,if_pos rfl],by simp,hsz',by simp,by simp,λo _=>?_⟩) (λ_ h=>absurd h hg) ?_,hc.mono λ_ h=>h.elim,List.prefix_refl _⟩
  ·have h1:=hinv.agree b o v hv;have h2:=hold b (hagree b o v hv) (.cells arr e);rw[World.cell?_of_block (a:=⟨b,o,none⟩) h2];exact h1
  ·cases h4:g.m w.heap.size o with
   |none=>rfl
   |some v=>have:=hagree _ _ _ h4;omega
  ·intro b hb;simp only[own1]at hb;split at hb
   ·cases hb
   ·simp only[Option.some.injEq]at hb;rw[←hb];exact Nat.le_refl _
theorem p245 (n:Nat) (hn:n≤2^30) (h:List Row):FSp Tryz.prog GLx 390 [.nil 70 4,.v (.int .i64 n)] h [.own 70 4 []] h:=
 growG layG rfl rfl (by kernel_rfl) (by decide) (λh=>h.1 rfl) (by kernel_rfl) n hn h
theorem p516 (n:Nat) (hn:n≤2^30) (h:List Row):FSp Tryz.prog GLx 571 [.nil 3 1,.v (.int .i64 n)] h [.own 3 1 []] h:=
 growG layI rfl rfl (by kernel_rfl) (by decide) (λh=>h.2 rfl) (by kernel_rfl) n hn h
theorem p140 (L:List (List F)) (hL:L.length≤2^20) (hn:L.flatten.length≤2^30):PSp Tryz.prog GLx 318 [.list (L.map λl=> .list (l.map F.V))] [.list (L.flatten.map F.V)]:=by
 refine psp_of_awp (Zkk 318) rfl ?_;have hh:∀l:List F,headOK 4 (l.map F.V)=true:=by
  intro l;cases l with
  |nil=>rfl
  |cons x xs=>obtain⟨op,n,ins,kids⟩:=x;simp[F.V_eq,V.cells]
 have q:=p245 L.flatten.length hn [];obtain⟨U,hU⟩:∃U:Nat→List F,∀k,U k=(L.take k).flatten:=⟨_,λ_=>rfl⟩;have hU0:U 0=[]:=by rw[hU];rfl
 have hUn:U L.length=L.flatten:=by rw[hU,List.take_length]
 have hUs:∀k l,L[k]?=some l→U (k+1)=U k++l:=by
  intro k l h;rw[hU,hU,List.take_add_one,h];simp
 have hUl:∀k,(U k).length≤L.flatten.length:=by
  intro k;rw[hU];conv=>rhs;rw[←List.take_append_drop k L,List.flatten_append,List.length_append]
  omega
 rw[←hUn]at q hUl ⊢;rw[←hUn]at hn;simp only[Zga 318,awp_seq,awp_reg,awp_block,Zge 318 0,Zge 318 1,Zge 318 2,entry];simp;refine awp_loop_nat0 L.length (λk=>⟨[(0,.v (.list (L.map λl=> .list (l.map F.V)))),(3,.v (.int .i64 (U k).length)),(9,.v (.list (L.map λl=> .list (l.map F.V)))),(10,.v (.int .i64 L.length)),(11,.v (.int .i64 k))],[]⟩) (by simp[hU0]) ?_;intro k hk;simp only[Zgl 318 0,awp_seq,awp_reg,awp_block,awp_cond,Zge 318 3];simp;by_cases h1:k <L.length
 ·obtain⟨l,hl⟩:∃l,L[k]?=some l:=⟨_,List.getElem?_eq_getElem h1⟩;have w1:IntKind.i64.wrap ((k:Int)+1)=k+1:=wrap_i64 (by omega) (by omega);have hle:=hUl (k+1);rw[hUs k l hl,List.length_append]at hle;rw[hUs k l hl,List.length_append];generalize (U k).length=s at*;have w2:IntKind.i64.wrap ((s:Int)+l.length)=s+l.length:=wrap_i64 (by omega) (by omega);have w3:¬((s:Int)+l.length <0):=by omega
  rw[if_pos (by omega),awp_skip];simp only[Zge 318 4,Zge 318 5,Zge 318 6];have hl':L[k]'h1=l:=by have:=List.getElem?_eq_getElem h1;rw[hl]at this;exact(Option.some.inj this).symm
  simp[hl',w2,w3,awp_skip,Zge 318 8,w1,h1]
 ·have hk2:k=L.length:=by omega
  subst hk2;rw[if_neg (by omega),awp_exit];simp only[Zge 318 9];simp;refine⟨_,_,q,?_⟩;simp[Zge 318 10];refine awp_loop_nat0 L.length (λk=>⟨[(6,.own 70 4 ((U k).map F.V)),(25,.v (.list (L.map λl=> .list (l.map F.V)))),(26,.v (.int .i64 L.length)),(27,.v (.int .i64 k))],[]⟩) (by simp[hU0]) ?_;intro k hk;simp only[Zgl 318 1,awp_seq,awp_reg,awp_block,awp_cond,Zge 318 11];simp;by_cases h1:k <L.length
  ·obtain⟨l,hl⟩:∃l,L[k]?=some l:=⟨_,List.getElem?_eq_getElem h1⟩;have w1:IntKind.i64.wrap ((k:Int)+1)=k+1:=wrap_i64 (by omega) (by omega);have hle:=hUl (k+1);rw[hUs k l hl,List.length_append]at hle;rw[hUs k l hl,List.map_append];generalize U k=s at*;have hroom:roomy (s.length+l.length) 64=true:=by simp[roomy];omega
   rw[if_pos (by omega),awp_skip];simp only[Zge 318 12,Zge 318 13];have hl':L[k]'h1=l:=by have:=List.getElem?_eq_getElem h1;rw[hl]at this;exact(Option.some.inj this).symm
   simp[hl',hh,hroom,Zge 318 14,w1,h1]
  ·have hk3:k=L.length:=by omega
   subst hk3;rw[if_neg (by omega),awp_exit];simp[Zge 318 15,awp_ret,Zgr 318]
def slot64 (pre:List V) (g:V) (b:Nat) (d:Nat→Bool):D:=
 if d 7 then (if d 6 then .own 70 4 (pre++[g]) else .pend b 70 4 pre) else if d 0 then .v (.list pre) else .own 70 4 pre
structure I64 (H:List Row) (r6 r8:Nat) (pre:List V) (op n:Int) (ins kids:V) (d:Nat→Bool) (s:St):Prop where
 ex:∃b,s.h=H.set r6 (.cells [slot64 pre (.agg [.int .i64 op,.int .i64 n,ins,kids]) b d])∧(d 4=true→d 7=false→find s.e 26=if d 6 then .own 70 4 (pre++[.agg [.int .i64 op,.int .i64 n,ins,kids]]) else .pend b 70 4 pre)∧
  (d 7=true→d 6=false→find s.e 26= .pptr b 0 pre.length)∧(d 5=true→find s.e 27= .pptr b 4 pre.length)
 e6:find s.e 6= .ref r6 0
 e8:find s.e 8= .ref r8 0
 e23:d 1=true→find s.e 23= .agg [.v (.int .i64 op),.v (.int .i64 n),.v ins,.v kids]
 e22:d 0=true→d 4=false→find s.e 22= .own 70 4 pre
 e24:d 2=true→find s.e 24= .v (.int .i64 pre.length)
 e25:d 3=true→find s.e 25= .own 70 4 [.agg [.int .i64 0,.int .i64 0,.list [],.list []]]
set_option maxRecDepth 100000 in
set_option maxHeartbeats 4000000 in
theorem r64 (H:List Row) (r6 r8:Nat) (hne:r6≠r8) (hl:r6 <H.length) (pre:List V) (hpre:pre.length≤2^20) (op n:Int) (ins kids:V)
  (h6:H[r6]?=some (.cells [.own 70 4 pre])) (h8:H[r8]?=some (.cells [.v (.int .i64 op),.v (.int .i64 n),.v ins,.v kids])) (K:St→Prop)
  (hK:∀e,K ⟨e,H.set r6 (.cells [.own 70 4 (pre++[.agg [.int .i64 op,.int .i64 n,ins,kids]])])⟩) (e:Env) (f6:find e 6= .ref r6 0) (f8:find e 8= .ref r8 0):
  AnyD Tryz.prog GLx c37r4 [[],[],[0],[],[0,1,2,3],[0,1,2,3,4],[0,1,2,3,4,5],[0,1,2,3,4]] K 8 (List.range 8) ⟨e,H⟩:=by
 have hroom:roomy (pre.length+1) 64=true:=by simp[roomy];omega
 refine anyD_all (I64 H r6 r8 pre op n ins kids) ?_ ?_ ?_
 ·rintro d i ⟨se,sh⟩ hi hdi hdep hup ⟨⟨b,hh,e26,e26',e27⟩,e6,e8,e23,e22,e24,e25⟩;simp only at hh e26 e26' e27 e6 e8 e23 e22 e24 e25;subst hh;have hg8:∀X,(H.set r6 X)[r8]?=some (.cells [.v (.int .i64 op),.v (.int .i64 n),.v ins,.v kids]):=λX=>by rw[List.getElem?_set_ne hne];exact h8
  have hg6:∀X,(H.set r6 X)[r6]?=some X:=λX=>List.getElem?_set_self hl;have hcases:i=0∨i=1∨i=2∨i=3∨i=4∨i=5∨i=6∨i=7:=by omega
  rcases hcases with rfl|rfl|rfl|rfl|rfl|rfl|rfl|rfl
  ·have d4:=hup 4 (by decide) (by simp);have d7:=hup 7 (by decide) (by simp);have d5:=hup 5 (by decide) (by simp);simp[awpG,c37r4,e6,hg6,slot64,hdi,d7];refine⟨⟨b,?_,?_,?_,?_⟩,?_,?_,?_,?_,?_,?_⟩<;>simp_all [did,slot64]
  ·simp[awpG,c37r4,e8,hg8];refine⟨⟨b,?_,?_,?_,?_⟩,?_,?_,?_,?_,?_,?_⟩<;>simp_all [did,slot64]
  ·have d0:=hdep 0 (by simp);have d4:=hup 4 (by decide) (by simp);have h22:=e22 d0 d4;simp[awpG,c37r4,h22];refine⟨⟨b,?_,?_,?_,?_⟩,?_,?_,?_,?_,?_,?_⟩<;>simp_all [did,slot64]
  ·have d4:=hup 4 (by decide) (by simp);simp[awpG,c37r4];refine⟨⟨b,?_,?_,?_,?_⟩,?_,?_,?_,?_,?_,?_⟩<;>simp_all [did,slot64]
  ·have d0:=hdep 0 (by simp);have d3:=hdep 3 (by simp);have d5:=hup 5 (by decide) (by simp);have d6:=hup 6 (by decide) (by simp);have d7:=hup 7 (by decide) (by simp);have h22:=e22 d0 hdi;have h25:=e25 d3;simp[awpG,c37r4,h22,h25,ownOf,hroom];intro b';refine⟨⟨b',?_,?_,?_,?_⟩,?_,?_,?_,?_,?_,?_⟩<;>simp_all [did,slot64]
  ·have d4:=hdep 4 (by simp);have d2:=hdep 2 (by simp);have d6:=hup 6 (by decide) (by simp);have h24:=e24 d2;cases d7:d 7 with
   |true=>
    have h26:=e26' d7 d6;simp[awpG,c37r4,h24,h26];refine⟨⟨b,?_,?_,?_,?_⟩,?_,?_,?_,?_,?_,?_⟩<;>simp_all [did,slot64]
   |false=>
    have h26:=e26 d4 d7;rw[d6]at h26;simp at h26;simp[awpG,c37r4,h24,h26];refine⟨⟨b,?_,?_,?_,?_⟩,?_,?_,?_,?_,?_,?_⟩<;>simp_all [did,slot64]
  ·have d4:=hdep 4 (by simp);have d1:=hdep 1 (by simp);have d5:=hdep 5 (by simp);have h23:=e23 d1;have h27:=e27 d5;cases d7:d 7 with
   |true=>
    have h26:=e26' d7 hdi;simp[awpG,c37r4,h23,h26,h27,e6,hg6,slot64,d7,hdi,D.vs?,D.v?,V.cells];refine⟨⟨b,?_,?_,?_,?_⟩,?_,?_,?_,?_,?_,?_⟩<;>simp_all [did,slot64]
   |false=>
    have h26:=e26 d4 d7;rw[hdi]at h26;simp at h26;simp[awpG,c37r4,h23,h26,h27,D.vs?,D.v?,V.cells];refine⟨⟨b,?_,?_,?_,?_⟩,?_,?_,?_,?_,?_,?_⟩<;>simp_all [did,slot64]
  ·have d4:=hdep 4 (by simp);have h26:=e26 d4 hdi;cases d6:d 6 with
   |true=>
    rw[d6]at h26;simp at h26;simp[awpG,c37r4,h26,e6,hg6,slot64,hdi];refine⟨⟨b,?_,?_,?_,?_⟩,?_,?_,?_,?_,?_,?_⟩<;>simp_all [did,slot64]
   |false=>
    rw[d6]at h26;simp at h26;simp[awpG,c37r4,h26,e6,hg6,slot64,hdi];refine⟨⟨b,?_,?_,?_,?_⟩,?_,?_,?_,?_,?_,?_⟩<;>simp_all [did,slot64]
 ·rintro d ⟨se,sh⟩ hd ⟨⟨b,hh,_⟩,_⟩;simp only at hh;subst hh;have h7:=hd 7 (by decide);have h6':=hd 6 (by decide);simp only[slot64,h7,h6',if_true];exact hK se
 ·refine⟨⟨0,?_,?_,?_,?_⟩,f6,f8,?_,?_,?_,?_⟩<;>simp[slot64]
  obtain⟨hl2,hg⟩:=List.getElem?_eq_some_iff.1 h6;rw[←hg];exact(List.set_getElem_self hl2).symm
section
variable (h:List Row) (C B:Row) (e0:Env)
def X64 (h:List Row) (C B:Row) (e0:Env) (own:List V) (t:Tag):List Row:=h++[C,.cells [.own 70 4 own],B,recRow Tryz.prog GLx t e0 [21] (lG 240 0) (lG 240 1000)]
set_option maxRecDepth 100000 in
set_option maxHeartbeats 4000000 in
theorem y64 (h6:find e0 6= .ref (h.length+1) 0) (pre:List F) (hpre:pre.length≤2^20) (g:F) (J:List Row):
  YSp Tryz.prog GLx (h.length+3) [.v g.V] (X64 h C B e0 (pre.map F.V) .ready++J) true (X64 h C B e0 ((pre++[g]).map F.V) .ready++(J++[.cells g.cells])):=by
 refine ysp_of_awp (e0:=e0) (ps:=[21]) (asg:=(lG 240 0)) (body:=(lG 240 1000)) (by simp[X64]) rfl ?_;obtain⟨op,n,ins,kids⟩:=g;have hr:=λ(H:List Row) (r8:Nat) (hne:h.length+1≠r8) (hl:h.length+1 <H.length) (hx:H[h.length+1]?=some (.cells [.own 70 4 (pre.map F.V)])) (h8:H[r8]?=some (.cells [.v (.int .i64 op),.v (.int .i64 n),.v (.list (ins.map Ivl.V)),.v (.list (kids.map F.V))])) K hK e f6 f8=>
  r64 H (h.length+1) r8 hne hl (pre.map F.V) (by simpa using hpre) op n (.list (ins.map Ivl.V)) (.list (kids.map F.V)) hx h8 K hK e f6 f8
 simp only[F.cells,F.op,F.n,F.ins,F.kids,F.V_eq,X64,setPs,Zgl 240 0,Zgl 240 1000,awp_reg,awp_block,Zge 240 3];simp[h6,putL];rw[awp_regV,oG37];refine hr _ (h.length+(J.length+4)) (by omega) (by simp) (by simp) (by simp) _ ?_ _ rfl rfl;intro e;simp[roundEnd,F.V_eq]
end
set_option maxRecDepth 100000 in
theorem l64c (H:List Row) (a:F) (a14:Nat) (h14:H[a14]?=some (.cells a.cells)) (bl res:List F) (hb:∀b∈bl,(mkA a b).ok∧formE (mkA a b)=0) (hlen:res.length+bl.length≤64) (d1 d6 d37 d38 d39 d62 d63 d64:D) (J:List Row) (Q:AExit→St→Prop)
  (hQ:∀J' e,find e 1=d1→find e 6=d6→find e 7= .own 70 4 ((res++bl.map (mkA a)).map F.V)→find e 37=d37→find e 38=d38→find e 39=d39→find e 62=d62→find e 63=d63→find e 64=d64→Q (.exit 6) ⟨e,H++J'⟩):
  awp Tryz.prog GLx (.loop (lG 240 3)) Q ⟨[(1,d1),(6,d6),(7,.own 70 4 (res.map F.V)),(14,.ref a14 0),(37,d37),(38,d38),(39,d39),(62,d62),(63,d63),(64,d64),(68,.v (.list (bl.map F.V))),(69,.v (.int .i64 bl.length)),(70,.v (.int .i64 (0:Nat)))],H++J⟩:=by
 refine awp_loop_I bl.length (λk s=>∃J',s=⟨[(1,d1),(6,d6),(7,.own 70 4 ((res++(bl.take k).map (mkA a)).map F.V)),(14,.ref a14 0),(37,d37),(38,d38),(39,d39),(62,d62),(63,d63),(64,d64),(68,.v (.list (bl.map F.V))),(69,.v (.int .i64 bl.length)),(70,.v (.int .i64 k))],H++J'⟩) ⟨J,by simp⟩ ?_;rintro k s hk ⟨J',rfl⟩;have h14':=λZ=>get_old Z h14;simp only[Zgl 240 3,awp_seq,awp_reg,awp_block,awp_cond,Zge 240 17];by_cases hkl:k <bl.length
 ·obtain⟨b,hbk⟩:∃b,bl[k]?=some b:=⟨_,List.getElem?_eq_getElem hkl⟩;obtain⟨hmok,hmz⟩:=hb b (List.mem_of_getElem? hbk);have w1:IntKind.i64.wrap ((k:Int)+1)=k+1:=wrap_i64 (by omega) (by omega);have htk:bl.take (k+1)=bl.take k++[b]:=by rw[List.take_add_one,hbk];rfl
  have q1:=p141 a;have q2:=p141 b;have q3:=p140 [partsF a,partsF b] (by simp) (by
   have hsz:(mkA a b).size≤1000:=by
    unfold formE at hmz;split at hmz
    ·cases hmz
    ·omega
   unfold mkA at hsz;rw[F.size_eq]at hsz;have:=F.kids_len (partsF a++partsF b);simp at this ⊢;simp at hsz;omega)
  have q4:=(p66 (mkA a b) hmok).fsp;rw[hmz]at q4;rw[htk];have hrl:((bl.take k).map (mkA a)).length≤k:=by rw[List.length_map,List.length_take];omega
  rw[List.map_append (f:=mkA a)];generalize (bl.take k).map (mkA a)=R at*;have hroom:roomy (res.length+R.length+1) 64=true:=by simp[roomy];omega
  simp only[mkA]at q4;simp only[List.map_cons,List.map_nil,mkA];have hfl:[partsF a,partsF b].flatten=partsF a++partsF b:=by simp
  rw[hfl]at q3;generalize partsF a=pa at*;generalize partsF b=pb at*;obtain⟨ao,an,ai,ak⟩:=a;obtain⟨bo,bn,bi,bk⟩:=b;simp only[F.V_eq,F.cells,F.op,F.n,F.ins,F.kids]at*;simp at q3 q4 h14';simp;rw[if_pos (by omega),awp_skip];simp only[Zge 240 18];simp[hbk,F.V_eq,putL];simp only[awp_regD,Zge 240 19];simp[h14'];refine⟨_,_,⟨rfl,rfl⟩,_,q1,?_⟩;simp;refine⟨_,_,⟨rfl,rfl⟩,_,q2,?_⟩;simp;refine⟨_,_,⟨rfl,rfl⟩,_,q3,?_⟩;simp[putL];simp only[Zge 240 20];simp;refine⟨_,_,q4 _,?_⟩;simp[awp_skip,Zge 240 22,hroom,Zge 240 23,w1,hkl]
 ·have hk2:k=bl.length:=by omega
  subst hk2;simp;rw[awp_exit];refine hQ _ _ ?_ ?_ ?_ ?_ ?_ ?_ ?_ ?_ ?_<;>simp
set_option maxRecDepth 100000 in
theorem l64b (H:List Row) (r6:Nat) (al bl res:List F) (h6:H[r6]?=some (.cells [.own 70 4 (bl.map F.V)])) (hb:∀a∈al,∀b∈bl,(mkA a b).ok∧formE (mkA a b)=0) (hlen:res.length+al.length*bl.length≤64) (haln:al.length≤2^20) (d1 d37 d38 d39:D) (J:List Row) (Q:AExit→St→Prop)
  (hQ:∀J' e,find e 1=d1→find e 6= .ref r6 0→find e 7= .own 70 4 ((res++al.flatMap λa=>bl.map (mkA a)).map F.V)→find e 37=d37→find e 38=d38→find e 39=d39→Q (.exit 4) ⟨e,H++J'⟩):
  awp Tryz.prog GLx (.loop (lG 240 2)) Q ⟨[(1,d1),(6,.ref r6 0),(7,.own 70 4 (res.map F.V)),(37,d37),(38,d38),(39,d39),(62,.v (.list (al.map F.V))),(63,.v (.int .i64 al.length)),(64,.v (.int .i64 (0:Nat)))],H++J⟩:=by
 obtain⟨U,hU⟩:∃U:Nat→List F,∀k,U k=res++(al.take k).flatMap λa=>bl.map (mkA a):=⟨_,λ_=>rfl⟩;have hU0:U 0=res:=by rw[hU];simp
 have hUn:U al.length=res++al.flatMap λa=>bl.map (mkA a):=by rw[hU,List.take_length]
 have hUs:∀k a,al[k]?=some a→U (k+1)=U k++bl.map (mkA a):=by
  intro k a h;rw[hU,hU,List.take_add_one,h];simp
 have hUl:∀k,k≤al.length→(U k).length=res.length+k*bl.length:=by
  intro k hk;have:∀l:List F,(l.flatMap λa=>bl.map (mkA a)).length=l.length*bl.length:=by
   intro l;induction l with
   |nil=>simp
   |cons x l ih=>rw[List.flatMap_cons,List.length_append,ih,List.length_map,List.length_cons,Nat.succ_mul];omega
  rw[hU,List.length_append,this,List.length_take,Nat.min_eq_left hk]
 rw[←hUn]at hQ;refine awp_loop_I al.length (λk s=>∃J',s.h=H++J'∧find s.e 1=d1∧find s.e 6= .ref r6 0∧find s.e 7= .own 70 4 ((U k).map F.V)∧find s.e 37=d37∧find s.e 38=d38∧find s.e 39=d39∧find s.e 62= .v (.list (al.map F.V))∧find s.e 63= .v (.int .i64 al.length)∧find s.e 64= .v (.int .i64 k)) ⟨J,rfl,rfl,rfl,by simp[hU0],rfl,rfl,rfl,rfl,rfl,rfl⟩ ?_;rintro k ⟨se,sh⟩ hk ⟨J',rfl,f1,f6,f7,f37,f38,f39,f62,f63,f64⟩;simp only at f1 f6 f7 f37 f38 f39 f62 f63 f64;have h6':=λZ=>get_old Z h6;simp only[Zgl 240 2,awp_seq,awp_reg,awp_block,awp_cond,Zge 240 14];simp[f1,f6,f7,f37,f38,f39,f62,f63,f64];by_cases hkl:k <al.length
 ·obtain⟨a,hak⟩:∃a,al[k]?=some a:=⟨_,List.getElem?_eq_getElem hkl⟩;have w1:IntKind.i64.wrap ((k:Int)+1)=k+1:=wrap_i64 (by omega) (by omega);have hrl:=hUl k (by omega);have hm:(k+1)*bl.length≤al.length*bl.length:=Nat.mul_le_mul_right _ hkl;rw[Nat.succ_mul]at hm;have hc:=λH2 a14 h14 d6 d62 d63 d64 J Q=>l64c H2 a a14 h14 bl (U k) (hb a (List.mem_of_getElem? hak)) (by rw[hrl];omega) d1 d6 d37 d38 d39 d62 d63 d64 J Q;rw[hUs k a hak];generalize U k=R at*;have hc2:=hc (H++J'++[.cells a.cells]) (H.length+J'.length) (by
   simp) (.ref r6 0) (.v (.list (al.map F.V))) (.v (.int .i64 al.length)) (.v (.int .i64 k)) []
  obtain⟨ao,an,ai,ak⟩:=a;simp only[F.cells,F.op,F.n,F.ins,F.kids]at*;rw[if_pos (by omega),awp_skip];simp only[Zge 240 15];simp[hak,F.V_eq,putL];simp only[Zge 240 16];simp[h6'];simp at hc2;refine hc2 _ ?_;intro J2 e g1 g6 g7 g37 g38 g39 g62 g63 g64;simp[Zge 240 24,g1,g6,g7,g37,g38,g39,g62,g63,g64,w1,hkl]
 ·have hk2:k=al.length:=by omega
  subst hk2;rw[if_neg (by omega),awp_exit];refine hQ _ _ ?_ ?_ ?_ ?_ ?_ ?_<;>simp
theorem run64 (h:List Row) (C B:Row) (e0:Env) (h6:find e0 6= .ref (h.length+1) 0):∀(l pre:List F),pre.length+l.length≤2^20→
  RunY Tryz.prog GLx (h.length+3) (l.map F.V) (X64 h C B e0 (pre.map F.V) .ready) true (X64 h C B e0 ((pre++l).map F.V) .ready)
 |[],pre,_=>⟨rfl,by rw[List.append_nil]⟩
 |g::l,pre,hn=>by
  have hn':pre.length+(l.length+1)≤2^20:=hn;refine⟨true,X64 h C B e0 ((pre++[g]).map F.V) .ready,by simp[X64],λJ=>⟨[.cells g.cells],y64 h C B e0 h6 pre (by omega) g J⟩,?_⟩;have:=run64 h C B e0 h6 l (pre++[g]) (by rw[List.length_append];simp;omega);rw[List.append_assoc]at this;exact this
theorem al64l (k:Nat) (acc:List (List F)):mfind false [0] (.int .i64 k) (entN 0 (acc.map λl=>V.list (l.map F.V)))=some (if k <acc.length then some k else none):=by
 rw[mfindN false];simp
set_option maxRecDepth 100000 in
theorem l64a (H:List Row) (r6 mx:Nat) (acc:List (List F)) (hmx:H[mx]?=some (mapN (acc.map λl=>V.list (l.map F.V)))) (refs:List Int) (hrefs:∀r∈refs,0≤r∧r <acc.length) (hrn:refs.length≤8) (bl:List F) (h6:H[r6]?=some (.cells [.own 70 4 (bl.map F.V)]))
  (hb:∀r∈refs,∀a∈(acc[r.toNat]?).getD [],∀b∈bl,(mkA a b).ok∧formE (mkA a b)=0) (U:Nat→List F) (hU:∀k,U k=(refs.take k).flatMap λr=>((acc[r.toNat]?).getD []).flatMap λa=>bl.map (mkA a)) (hlen:∀k,k≤refs.length→(U k).length≤64)
  (haln:∀r∈refs,((acc[r.toNat]?).getD []).length≤64) (hbl:bl.length≤64) (J:List Row) (Q:AExit→St→Prop)
  (hQ:∀J' e,find e 7= .own 70 4 ((U refs.length).map F.V)→Q (.exit 2) ⟨e,H++J'⟩):
  awp Tryz.prog GLx (.loop (lG 240 1)) Q ⟨[(1,.mref mx),(6,.ref r6 0),(7,.own 70 4 []),(37,.v (nums .i64 refs)),(38,.v (.int .i64 refs.length)),(39,.v (.int .i64 (0:Nat)))],H++J⟩:=by
 have hU0:U 0=[]:=by rw[hU];simp
 have hUs:∀k r,refs[k]?=some r→U (k+1)=U k++((acc[r.toNat]?).getD []).flatMap λa=>bl.map (mkA a):=by
  intro k r h;rw[hU,hU,List.take_add_one,h];simp
 refine awp_loop_I refs.length (λk s=>∃J',s.h=H++J'∧find s.e 1= .mref mx∧find s.e 6= .ref r6 0∧find s.e 7= .own 70 4 ((U k).map F.V)∧find s.e 37= .v (nums .i64 refs)∧find s.e 38= .v (.int .i64 refs.length)∧find s.e 39= .v (.int .i64 k)) ⟨J,rfl,rfl,rfl,by simp[hU0],rfl,rfl,rfl⟩ ?_;rintro k ⟨se,sh⟩ hk ⟨J',rfl,f1,f6,f7,f37,f38,f39⟩;simp only at f1 f6 f7 f37 f38 f39;have h6':=λZ=>get_old Z h6;have hmx':∀Z,(H++Z)[mx]?=some (.map (entN 0 (acc.map λl=>V.list (l.map F.V))) (List.range (acc.map λl=>V.list (l.map F.V)).length) (acc.map λl=>V.list (l.map F.V)).length):=λZ=>get_old Z hmx;simp only[Zgl 240 1,awp_seq,awp_reg,awp_block,awp_cond,Zge 240 8];simp[f1,f6,f7,f37,f38,f39,nums];by_cases hkl:k <refs.length
 ·obtain⟨r,hr⟩:∃r,refs[k]?=some r:=⟨_,List.getElem?_eq_getElem hkl⟩;have hrm:=List.mem_of_getElem? hr;have hrr:=hrefs r hrm;have w1:IntKind.i64.wrap ((k:Int)+1)=k+1:=wrap_i64 (by omega) (by omega);obtain⟨j,rfl⟩:∃j:Nat,r=j:=⟨r.toNat,by omega⟩;obtain⟨al,hal⟩:∃al,acc[j]?=some al:=⟨_,List.getElem?_eq_getElem (by omega)⟩;have hgd:(acc[((j:Int)).toNat]?).getD []=al:=by simp[hal]
  have hls:=hlen (k+1) hkl;have hbb:=hb _ hrm;have haa:=haln _ hrm;rw[hUs k _ hr]at hls ⊢;rw[hgd]at hls hbb haa ⊢;have hf:mfind false [0] (.int .i64 j) (entN 0 (acc.map λl=>V.list (l.map F.V)))=some (some j):=by rw[al64l,if_pos (by omega)]
  have hgv:(entN 0 (acc.map λl=>V.list (l.map F.V)))[j]?=some (.int .i64 j,.list (al.map F.V)):=by
   have:=entN_get (acc.map λl=>V.list (l.map F.V)) 0 j (.list (al.map F.V)) (by simp[hal]);simpa using this
  have hfl:((al.flatMap λa=>bl.map (mkA a))).length=al.length*bl.length:=by
   clear hls hbb haa hal hgd hgv;induction al with
   |nil=>simp
   |cons x l ih=>rw[List.flatMap_cons,List.length_append,ih,List.length_map,List.length_cons,Nat.succ_mul];omega
  rw[List.length_append,hfl]at hls;have hc:=λd37 d38 d39 J Q=>l64b H r6 al bl (U k) h6 hbb hls (by omega) (.mref mx) d37 d38 d39 J Q;generalize U k=R at*;rw[if_pos (by omega),awp_skip];simp only[Zge 240 9];simp[hr];simp only[Zge 240 10];simp[hmx',keyOK,V.eqL,V.eq1,hf,hgv,lookD];have hmb:al.length*bl.length≤64:=by omega
  have w2:IntKind.i64.wrap ((al.length:Int)*bl.length)=((al.length*bl.length:Nat):Int):=by
   rw[←Int.natCast_mul];exact wrap_i64 (by omega) (by omega)
  have w3:IntKind.i64.wrap ((R.length:Int)+((al.length*bl.length:Nat):Int))=((R.length+al.length*bl.length:Nat):Int):=by
   rw[←Int.natCast_add];exact wrap_i64 (by omega) (by omega)
  have hgt:¬(64 <R.length+al.length*bl.length):=by omega
  simp only[Zge 240 11];generalize al.length*bl.length=m at*;simp[h6',w2,w3];rw[if_neg (by omega),awp_skip];simp only[Zge 240 13];simp;simp at hc;refine hc _ _ _ _ _ ?_;intro J2 e g1 g6 g7 g37 g38 g39;simp[Zge 240 25,g1,g6,g7,g37,g38,g39,w1,hkl]
 ·have hk2:k=refs.length:=by omega
  subst hk2;rw[if_neg (by omega),awp_exit];exact hQ _ _ (by simp)
set_option maxRecDepth 100000 in
theorem p64 (h:List Row) (hl:Low h) (c:Clm) (hok:c.body.ok) (htl:c.body.tops.length≤64) (mx:Nat) (acc:List (List F)) (hmx:h[mx]?=some (mapN (acc.map λl=>V.list (l.map F.V)))) (hrefs:∀r∈c.refs,0≤r∧r <acc.length) (hrn:c.refs.length≤8)
  (hb:∀r∈c.refs,∀a∈(acc[r.toNat]?).getD [],∀b∈c.body.tops,(mkA a b).ok∧formE (mkA a b)=0) (hlen:∀k,k≤c.refs.length→((c.refs.take k).flatMap λr=>((acc[r.toNat]?).getD []).flatMap λa=>c.body.tops.map (mkA a)).length≤64)
  (haln:∀r∈c.refs,((acc[r.toNat]?).getD []).length≤64):
  FSp Tryz.prog GLx 240 [.v c.V,.mref mx] h [if c.refs=[] then .v (.list ((altC acc c).map F.V)) else .own 70 4 ((altC acc c).map F.V),.v (.bool true)] h:=by
 have hd:∀d∈[if c.refs=[] then D.v (.list ((altC acc c).map F.V)) else .own 70 4 ((altC acc c).map F.V),.v (.bool true)],D.lt h.length d=true:=by
  intro d hd;simp only[List.mem_cons,List.not_mem_nil,or_false]at hd;rcases hd with rfl|rfl
  ·split<;>rfl
  ·rfl
 refine fsp_low (Zkk 240) rfl (Nat.le_refl _) hl hd ?_;obtain⟨U,hU⟩:∃U:Nat→List F,∀k,U k=(c.refs.take k).flatMap λr=>((acc[r.toNat]?).getD []).flatMap λa=>c.body.tops.map (mkA a):=⟨_,λ_=>rfl⟩;have hUn:U c.refs.length=altC acc c∨c.refs=[]:=by
  by_cases h0:c.refs=[]
  ·exact .inr h0
  ·left;rw[hU,List.take_length];unfold altC;rw[if_neg h0]
 have hlo:=λ(H:List Row) r6 hm6 h6 J Q=>l64a H r6 mx acc hm6 c.refs hrefs hrn c.body.tops h6 hb U hU (λk hk=>by rw[hU];exact hlen k hk) haln htl J Q;have q139:=λZ=>p139 c.body (h++Z);obtain⟨refs,body⟩:=c;simp only at*;generalize hT:body.tops=T at*;have hmx':=λZ=>get_old Z hmx;simp only[Zga 240,awp_seq,awp_reg,awp_block,awp_cond,Zge 240 0,entryD];simp[Clm.V];simp only[Zge 240 1];simp;simp only[Zge 240 2];simp;have hbv:body.V= .agg [.int .i64 body.op,.int .i64 body.n,.list (body.ins.map Ivl.V),.list (body.kids.map F.V)]:=by obtain⟨a,b,c,d⟩:=body;exact F.V_eq ..
 have q:=q139 [.cells [.v (nums .i64 refs),.v (.int .i64 body.op),.v (.int .i64 body.n),.v (.list (body.ins.map Ivl.V)),.v (.list (body.kids.map F.V))],.cells [.own 70 4 []]];rw[hbv]at q;refine⟨_,_,q,?_⟩;simp;obtain⟨e0,he0⟩:∃e0,e0=cpE [(1,D.mref mx),(2,.ref h.length 0),(6,.ref (h.length+1) 0),(7,.own 70 4 []),(20,.func 387 [.ref (h.length+2) 0])]:=⟨_,rfl⟩;obtain⟨C,hC⟩:∃C,C=Row.cells [.v (nums .i64 refs),.v (.int .i64 body.op),.v (.int .i64 body.n),.v (.list (body.ins.map Ivl.V)),.v (.list (body.kids.map F.V))]:=⟨_,rfl⟩;have hrun:=run64 h C (.cells body.cells) e0 (by rw[he0];simp[cpE]) T [] (by simp;omega);rw[←hT]at hrun;obtain⟨JJ,hp⟩:=p242 body hok (h.length+3) (h.length+2) _ true _ hrun (by simp[X64]);refine awp_range_at (h.length+3) (by simp) 387 [.ref (h.length+2) 0] [] _ _ .ready rfl ?_ hp ?_ ?_
 ·rw[hC,he0];simp[X64]
 ·rw[he0];simp[X64]
 ·have hloop:=λJ Q=>hlo (h++[C,.cells [.own 70 4 (T.map F.V)],.cells body.cells,.dead]) (h.length+1) (get_old _ hmx) (by simp) J Q;rw[hT];simp[rangeEnd,X64];simp at hloop;rw[hC]at hloop ⊢;by_cases hr0:refs=[]
  ·subst hr0;simp only[Zge 240 5];simp[nums];simp only[awp_regD,Zge 240 6];simp[awp_ret,Zgr 240,altC,hT]
   try omega
  ·have hrp:¬(refs.length:Int)=0:=by cases refs with|nil=>exact absurd rfl hr0|cons=>simp;omega
   have hUn':=hUn.resolve_right hr0;simp only[Zge 240 5];simp[nums,hr0,awp_skip];simp only[Zge 240 7];simp;simp[nums]at hloop;refine hloop _ _ ?_;intro J' e g7;rw[hUn']at g7;simp[Zge 240 26,g7,awp_ret,Zgr 240]
structure FP (s d:Nat) (f:F):Prop where
 nd:∀g∈f.nodes,g.ok1∧formedF g=true∧okC 6 g=true
 sz:f.size≤s
 dp:f.depth≤d
theorem FP.mono {s d s' d':Nat} {f:F} (h:FP s d f) (hs:s≤s') (hd:d≤d'):FP s' d' f:=⟨h.nd,Nat.le_trans h.sz hs,Nat.le_trans h.dp hd⟩
theorem FP.ok {s d:Nat} {f:F} (h:FP s d f) (hs:s≤96) (hd:d≤8):f.ok∧formE f=0∧f.nodes.all (okC 6)=true:=by
 have h1:=h.sz;have h2:=h.dp;refine⟨⟨λg hg=>(h.nd g hg).1,by omega⟩,?_,List.all_eq_true.2 λg hg=>(h.nd g hg).2.2⟩;unfold formE;rw[if_neg (by omega),if_pos (List.all_eq_true.2 λg hg=>(h.nd g hg).2.1)]
theorem depths_max {d:Nat}:∀ {l:List F},(∀k∈l,k.depth≤d)→F.depths l≤d
 |[],_=>by simp[F.depths]
 |k::ks,h=>by
  have h1:=h k (by simp);have h2:=depths_max (l:=ks) λx hx=>h x (by simp[hx]);simp only[F.depths];omega
theorem FP.node {op:Int} (ho:op=4∨op=5) {kids:List F} {s d n:Nat} (hk:∀k∈kids,FP n d k) (hs:(kids.map F.size).sum≤s):FP (1+s) (d+1) (.mk op 0 [] kids):=by
 refine⟨λg hg=>?_,by rw[F.size_eq];omega,?_⟩
 ·rw[F.nodes_eq]at hg;rcases List.mem_cons.1 hg with rfl|hg
  ·refine⟨⟨?_,by simp[F.n,i64],by simp[F.ins],by simp[F.ins]⟩,?_,?_⟩
   ·rcases ho with rfl|rfl<;>simp[F.op,i64]
   ·rcases ho with rfl|rfl<;>simp[formedF,F.op,F.n,F.ins]
   ·rcases ho with rfl|rfl<;>simp[okC,F.op]
  ·obtain⟨k,hk1,hk2⟩:=List.mem_flatMap.1 hg;exact(hk k hk1).nd g hk2
 ·have:=depths_max (l:=kids) λk hkk=>(hk k hkk).dp;simp only[F.depth];omega
structure CP (c:Clm):Prop where
 lr:c.refs.length≤2
 body:FP 7 3 c.body
 nt:c.body.tops.length≤2
 tops:∀p∈c.body.tops,FP 3 2 p
def sB:Nat→Nat
 |0=>7
 |k+1=>9+2*sB k
theorem sB_le {a b:Nat} (h:a≤b):sB a≤sB b:=by
 induction h with
 |refl=>exact Nat.le_refl _
 |step _ ih=>simp only[sB];omega
theorem sum_le {α:Type} (f:α→Nat) (n:Nat):∀l:List α,(∀x∈l,f x≤n)→(l.map f).sum≤n*l.length
 |[],_=>by simp
 |x::l,h=>by
  have h1:=h x (by simp);have h2:=sum_le f n l λy hy=>h y (by simp[hy]);simp only[List.map_cons,List.sum_cons,List.length_cons,Nat.mul_succ];omega
theorem meanC_ok (T:List Clm) (hc:∀c∈T,CP c) (hlow:∀(k:Nat) (c:Clm),T[k]?=some c→∀r∈c.refs,0≤r∧r <(k:Int)):∀(k:Nat) (c:Clm),T[k]?=some c→FP (sB k) (3+2*k) (meanC (meanL (T.take k)) c):=by
 intro k;induction k using Nat.strongRecOn with
 |_ k ih=>
  intro c hk;have hcp:=hc c (List.mem_of_getElem? hk);unfold meanC;by_cases h0:c.refs=[]
  ·rw[if_pos h0];exact hcp.body.mono (sB_le (Nat.zero_le k)) (by omega)
  ·rw[if_neg h0];have hkl:k <T.length:=(List.getElem?_eq_some_iff.1 hk).1;have hk0:0 <k:=by
    obtain⟨r,hr⟩:=List.exists_mem_of_ne_nil _ h0;have:=hlow k c hk r hr;omega
   obtain⟨j,rfl⟩:∃j,k=j+1:=⟨k-1,by omega⟩;have hm:∀r∈c.refs,FP (sB j) (3+2*j) (((meanL (T.take (j+1)))[r.toNat]?).getD c.body):=by
    intro r hr;have hrl:=hlow _ c hk r hr;have hrk:r.toNat <j+1:=by omega
    obtain⟨c',hc'⟩:∃c',T[r.toNat]?=some c':=⟨_,List.getElem?_eq_getElem (by omega)⟩;have h1:=ih r.toNat hrk c' hc';have h2:(meanL (T.take (j+1)))[r.toNat]?=some (meanC (meanL (T.take r.toNat)) c'):=by
     have e1:(meanL (T.take (r.toNat+1)))[r.toNat]?=some (meanC (meanL (T.take r.toNat)) c'):=by
      rw[meanL_take T hc'];have:(meanL (T.take r.toNat)).length=r.toNat:=by rw[meanL_len,List.length_take];omega
      rw[List.getElem?_append_right (by omega),this,Nat.sub_self];rfl
     rw[meanL_pre T (r.toNat+1) (by omega),List.getElem?_take,if_pos (by omega)]at e1;rw[meanL_pre T (j+1) (by omega),List.getElem?_take,if_pos hrk];exact e1
    rw[h2,Option.getD_some];exact h1.mono (sB_le (by omega)) (by omega)
   have hor:FP (1+sB j*c.refs.length) (3+2*j+1) (.mk 5 0 [] (c.refs.map λr=>((meanL (T.take (j+1)))[r.toNat]?).getD c.body)):=by
    refine FP.node (.inr rfl) (n:=sB j) (λf hf=>?_) ?_
    ·obtain⟨r,hr,rfl⟩:=List.mem_map.1 hf;exact hm r hr
    ·have:=sum_le F.size (sB j) (c.refs.map λr=>((meanL (T.take (j+1)))[r.toNat]?).getD c.body) λf hf=>by
      obtain⟨r,hr,rfl⟩:=List.mem_map.1 hf;exact(hm r hr).sz
     rw[List.length_map]at this;exact this
   have hl2:sB j*c.refs.length≤sB j*2:=Nat.mul_le_mul_left _ hcp.lr;have h7:7≤sB j:=sB_le (Nat.zero_le j);have hand:=FP.node (op:=4) (.inl rfl) (kids:=[c.body,.mk 5 0 [] (c.refs.map λr=>((meanL (T.take (j+1)))[r.toNat]?).getD c.body)]) (s:=8+sB j*2) (d:=3+2*j+1) (n:=7+(1+sB j*2)) (λf hf=>by
    simp only[List.mem_cons,List.not_mem_nil,or_false]at hf;rcases hf with rfl|rfl
    ·exact hcp.body.mono (by omega) (by omega)
    ·exact hor.mono (by omega) (Nat.le_refl _)) (by
    have h1:=hcp.body.sz;have h2:=hor.sz;simp only[List.map_cons,List.map_nil,List.sum_cons,List.sum_nil];omega)
   refine hand.mono ?_ (by omega);simp only[sB];omega
theorem meanL_all (T:List Clm) (hn:T.length≤3) (hc:∀c∈T,CP c) (hlow:∀(k:Nat) (c:Clm),T[k]?=some c→∀r∈c.refs,0≤r∧r <(k:Int)):∀f∈meanL T,f.ok∧formE f=0∧f.nodes.all (okC 6)=true:=by
 intro f hf;obtain⟨k,hk⟩:=List.mem_iff_getElem?.1 hf;have hkl:k <T.length:=by rw[←meanL_len T];exact(List.getElem?_eq_some_iff.1 hk).1
 obtain⟨c,hck⟩:∃c,T[k]?=some c:=⟨_,List.getElem?_eq_getElem hkl⟩;have h1:=meanC_ok T hc hlow k c hck;have h2:(meanL T)[k]?=some (meanC (meanL (T.take k)) c):=by
  have e1:(meanL (T.take (k+1)))[k]?=some (meanC (meanL (T.take k)) c):=by
   rw[meanL_take T hck];have:(meanL (T.take k)).length=k:=by rw[meanL_len,List.length_take];omega
   rw[List.getElem?_append_right (by omega),this,Nat.sub_self];rfl
  rw[meanL_pre T (k+1) (by omega),List.getElem?_take,if_pos (by omega)]at e1;exact e1
 rw[hk]at h2;simp only[Option.some.injEq]at h2;subst h2;have hs:sB k≤sB 2:=sB_le (by omega);have e2:sB 2=55:=by decide
 exact h1.ok (by omega) (by omega)
theorem altL_len (l:List Clm):(altL l).length=l.length:=by
 have:∀(l:List Clm) (acc:List (List F)),(l.foldl (λacc c=>acc++[altC acc c]) acc).length=acc.length+l.length:=by
  intro l;induction l with
  |nil=>simp
  |cons c l ih=>intro acc;rw[List.foldl_cons,ih];simp;omega
 have h:=this l [];rw[List.length_nil,Nat.zero_add]at h;exact h
theorem altL_take (l:List Clm) {k:Nat} {c:Clm} (h:l[k]?=some c):altL (l.take (k+1))=altL (l.take k)++[altC (altL (l.take k)) c]:=by
 rw[List.take_add_one,h];unfold altL;rw[List.foldl_append];rfl
theorem altL_pre (l:List Clm):∀k,k≤l.length→altL (l.take k)=(altL l).take k:=by
 have:∀(l m:List Clm),(altL (l++m)).take l.length=altL l:=by
  intro l m;unfold altL;rw[List.foldl_append];have:∀(m:List Clm) (acc:List (List F)),∃t,m.foldl (λacc c=>acc++[altC acc c]) acc=acc++t:=by
   intro m;induction m with
   |nil=>intro acc;exact⟨[],by simp⟩
   |cons c m ih=>
    intro acc;obtain⟨t,ht⟩:=ih (acc++[altC acc c]);exact⟨[altC acc c]++t,by rw[List.foldl_cons,ht];simp⟩
  obtain⟨t,ht⟩:=this m (l.foldl (λacc c=>acc++[altC acc c]) []);rw[ht];have:=altL_len l;unfold altL at this;rw[List.take_append_of_le_length (by omega),List.take_of_length_le (by omega)]
 intro k hk;have h:=this (l.take k) (l.drop k);rw[List.take_append_drop]at h;rw[←h,List.length_take,Nat.min_eq_left hk]
theorem altL_at (l:List Clm) {k:Nat} {c:Clm} (h:l[k]?=some c) (n:Nat) (hn:k <n) (hl:n≤l.length):(altL (l.take n))[k]?=some (altC (altL (l.take k)) c):=by
 have hkl:k <l.length:=(List.getElem?_eq_some_iff.1 h).1;have e1:(altL (l.take (k+1)))[k]?=some (altC (altL (l.take k)) c):=by
  rw[altL_take l h];have:(altL (l.take k)).length=k:=by rw[altL_len,List.length_take];omega
  rw[List.getElem?_append_right (by omega),this,Nat.sub_self];rfl
 rw[altL_pre l (k+1) (by omega),List.getElem?_take,if_pos (by omega)]at e1;rw[altL_pre l n hl,List.getElem?_take,if_pos hn];exact e1
structure AP (s:Nat) (f:F):Prop where
 parts:∀p∈partsF f,FP s 2 p
 sum:((partsF f).map F.size).sum≤s
 all:FP (s+1) 3 f
theorem AP.mono {s s':Nat} {f:F} (h:AP s f) (hs:s≤s'):AP s' f:=⟨λp hp=>(h.parts p hp).mono hs (Nat.le_refl _),Nat.le_trans h.sum hs,h.all.mono (by omega) (Nat.le_refl _)⟩
theorem AP.piece {f:F} (h:FP 3 2 f):AP 3 f:=by
 have hall:FP 4 3 f:=h.mono (by decide) (by decide);obtain⟨op,n,ins,kids⟩:=f;have hsz:=h.sz;have hdp:=h.dp;rw[F.size_eq]at hsz;by_cases h4:op=4
 ·have hp:partsF (.mk op n ins kids)=kids:=by simp[partsF,F.op,F.kids,h4]
  refine⟨λp hpm=>?_,?_,hall⟩
  ·rw[hp]at hpm;have h1:=F.kid_size hpm;refine⟨λg hg=>h.nd g ?_,by omega,?_⟩
   ·rw[F.nodes_eq];exact List.mem_cons_of_mem _ (List.mem_flatMap.2 ⟨p,hpm,hg⟩)
   ·have:∀(l:List F),p∈l→p.depth≤F.depths l:=by
     intro l;induction l with
     |nil=>intro h;cases h
     |cons x l ih=>
      intro h;simp only[F.depths];rcases List.mem_cons.1 h with rfl|h
      ·omega
      ·have:=ih h;omega
    have:=this kids hpm;simp only[F.depth]at hdp;omega
  ·rw[hp];omega
 ·have hp:partsF (.mk op n ins kids)=[.mk op n ins kids]:=by simp[partsF,F.op,h4]
  refine⟨λp hpm=>?_,?_,hall⟩
  ·rw[hp]at hpm;rw[List.mem_singleton.1 hpm];exact h
  ·rw[hp];simp only[List.map_cons,List.map_nil,List.sum_cons,List.sum_nil,F.size_eq];omega
theorem AP.mkA {s s':Nat} {a b:F} (ha:AP s a) (hb:AP s' b):AP (s+s') (mkA a b):=by
 have hp:partsF (Go.Va.mkA a b)=partsF a++partsF b:=by simp[Go.Va.mkA,partsF,F.op,F.kids]
 have hparts:∀p∈partsF a++partsF b,FP (s+s') 2 p:=by
  intro p hpm;rcases List.mem_append.1 hpm with h|h
  ·exact(ha.parts p h).mono (by omega) (Nat.le_refl _)
  ·exact(hb.parts p h).mono (by omega) (Nat.le_refl _)
 have hsum:((partsF a++partsF b).map F.size).sum≤s+s':=by
  rw[List.map_append,List.sum_append];have:=ha.sum;have:=hb.sum;omega
 refine⟨by rw[hp];exact hparts,by rw[hp];exact hsum,?_⟩;have:=FP.node (op:=4) (.inl rfl) hparts hsum;exact this.mono (by omega) (by omega)
def lB:Nat→Nat
 |0=>2
 |k+1=>4*lB k
theorem lB_le {a b:Nat} (h:a≤b):lB a≤lB b:=by
 induction h with
 |refl=>exact Nat.le_refl _
 |step _ ih=>simp only[lB];omega
theorem flat_len_le {α β:Type} (f:α→List β) (n:Nat):∀l:List α,(∀x∈l,(f x).length≤n)→(l.flatMap f).length≤n*l.length
 |[],_=>by simp
 |x::l,h=>by
  have h1:=h x (by simp);have h2:=flat_len_le f n l λy hy=>h y (by simp[hy]);simp only[List.flatMap_cons,List.length_append,List.length_cons,Nat.mul_succ];omega
theorem altC_ok (T:List Clm) (hc:∀c∈T,CP c) (hlow:∀(k:Nat) (c:Clm),T[k]?=some c→∀r∈c.refs,0≤r∧r <(k:Int)):∀(k:Nat) (c:Clm),T[k]?=some c→
  (altC (altL (T.take k)) c).length≤lB k∧∀f∈altC (altL (T.take k)) c,AP (3*(k+1)) f:=by
 intro k;induction k using Nat.strongRecOn with
 |_ k ih=>
  intro c hk;have hcp:=hc c (List.mem_of_getElem? hk);unfold altC;by_cases h0:c.refs=[]
  ·rw[if_pos h0];refine⟨Nat.le_trans hcp.nt (lB_le (Nat.zero_le k)),λf hf=>(AP.piece (hcp.tops f hf)).mono (by omega)⟩
  ·rw[if_neg h0];have hkl:k <T.length:=(List.getElem?_eq_some_iff.1 hk).1;have hk0:0 <k:=by
    obtain⟨r,hr⟩:=List.exists_mem_of_ne_nil _ h0;have:=hlow k c hk r hr;omega
   obtain⟨j,rfl⟩:∃j,k=j+1:=⟨k-1,by omega⟩;have hm:∀r∈c.refs,∃L,((altL (T.take (j+1)))[r.toNat]?).getD []=L∧L.length≤lB j∧∀f∈L,AP (3*(j+1)) f:=by
    intro r hr;have hrl:=hlow _ c hk r hr;have hrk:r.toNat <j+1:=by omega
    obtain⟨c',hc'⟩:∃c',T[r.toNat]?=some c':=⟨_,List.getElem?_eq_getElem (by omega)⟩;obtain⟨h1,h1'⟩:=ih r.toNat hrk c' hc';have h2:=altL_at T hc' (j+1) hrk (by omega);refine⟨_,by rw[h2,Option.getD_some],Nat.le_trans h1 (lB_le (by omega)),λf hf=>(h1' f hf).mono (by omega)⟩
   constructor
   ·have h1:=flat_len_le (λr=>((((altL (T.take (j+1)))[r.toNat]?).getD []).flatMap λa=>c.body.tops.map λb=>Go.Va.mkA a b)) (2*lB j) c.refs (λr hr=>by
     obtain⟨L,hL,hl,_⟩:=hm r hr;rw[hL];have:=flat_len_le (λa=>c.body.tops.map λb=>Go.Va.mkA a b) 2 L (λa _=>by rw[List.length_map];exact hcp.nt);have h3:2*L.length≤2*lB j:=Nat.mul_le_mul_left _ hl;omega)
    have h2:2*lB j*c.refs.length≤2*lB j*2:=Nat.mul_le_mul_left _ hcp.lr;simp only[lB];omega
   ·intro f hf;obtain⟨r,hr,hf⟩:=List.mem_flatMap.1 hf;obtain⟨L,hL,_,hap⟩:=hm r hr;rw[hL]at hf;obtain⟨a,ha,hf⟩:=List.mem_flatMap.1 hf;obtain⟨b,hb,rfl⟩:=List.mem_map.1 hf;exact(AP.mkA (hap a ha) (AP.piece (hcp.tops b hb))).mono (by omega)
structure AltOK (T:List Clm):Prop where
 len:T.length≤32
 body:∀c∈T,c.body.ok∧c.body.tops.length≤64∧c.refs.length≤8
 low:∀(k:Nat) (c:Clm),T[k]?=some c→∀r∈c.refs,0≤r∧r <(k:Int)
 mka:∀(k:Nat) (c:Clm),T[k]?=some c→(∀r∈c.refs,∀a∈((altL (T.take k))[r.toNat]?).getD [],∀b∈c.body.tops,(mkA a b).ok∧formE (mkA a b)=0)
 pre:∀(k:Nat) (c:Clm),T[k]?=some c→∀j,j≤c.refs.length→((c.refs.take j).flatMap λr=>(((altL (T.take k))[r.toNat]?).getD []).flatMap λa=>c.body.tops.map (mkA a)).length≤64
 one:∀(k:Nat) (c:Clm),T[k]?=some c→∀r∈c.refs,(((altL (T.take k))[r.toNat]?).getD []).length≤64
def altV (l:List F):V:= .list (l.map F.V)
set_option maxRecDepth 100000 in
theorem l24 (T:List Clm) (hT:AltOK T) (h:List Row) (hl:Low h) (d1:V) (m:Nat) (hm:m≤T.length) (Q:AExit→St→Prop)
  (hQ:∀e J,find e 1= .v d1→find e 7= .mref h.length→Q (.exit 0) ⟨e,h++mapN ((altL (T.take m)).map altV)::J⟩):
  awp Tryz.prog GLx (.loop (lG 188 0)) Q ⟨[(1,.v d1),(7,.mref h.length),(24,.v (.list ((T.take m).map Clm.V))),(25,.v (.int .i64 m)),(26,.v (.int .i64 (0:Nat)))],h++[mapN []]⟩:=by
 refine awp_loop_I m (λk s=>∃J,Lows J∧s=⟨[(1,.v d1),(7,.mref h.length),(24,.v (.list ((T.take m).map Clm.V))),(25,.v (.int .i64 m)),(26,.v (.int .i64 k))],h++mapN ((altL (T.take k)).map altV)::J⟩) ⟨[],Lows.nil,by simp[altL]⟩ ?_;rintro k s hk ⟨J,hJ,rfl⟩;simp only[Zgl 188 0,awp_seq,awp_reg,awp_block,awp_cond,Zge 188 6];simp;by_cases hkl:k <m
 ·obtain⟨c,hc⟩:∃c,T[k]?=some c:=⟨_,List.getElem?_eq_getElem (by omega)⟩;have hcm:=List.mem_of_getElem? hc;have hTl:=hT.len;have w1:IntKind.i64.wrap ((k:Int)+1)=k+1:=wrap_i64 (by omega) (by omega);have hat:=altL_take T hc;have hal:(altL (T.take k)).length=k:=by rw[altL_len,List.length_take];omega
  have hcv:((T.take m).map Clm.V)[k]?=some c.V:=by simp[hkl,hc]
  obtain⟨hb1,hb2,hb3⟩:=hT.body c hcm;have hlc:∀n,Row.low n (.cells [.v (nums .i64 c.refs),.v (.int .i64 c.body.op),.v (.int .i64 c.body.n),.v (.list (c.body.ins.map Ivl.V)),.v (.list (c.body.kids.map F.V))])=true:=λn=>rfl;have q:=p64 (h++mapN ((altL (T.take k)).map altV)::(J++[.cells [.v (nums .i64 c.refs),.v (.int .i64 c.body.op),.v (.int .i64 c.body.n),.v (.list (c.body.ins.map Ivl.V)),.v (.list (c.body.kids.map F.V))]]))
   (hl.lows (by
    intro row hrow n;rcases List.mem_cons.1 hrow with rfl|hrow
    ·rfl
    ·exact(hJ.app hlc) row hrow n)) c hb1 hb2 h.length (altL (T.take k)) (by simp;rfl) (λr hr=>by have:=hT.low k c hc r hr;omega) hb3 (hT.mka k c hc) (hT.pre k c hc) (hT.one k c hc)
  have hput:=mapN_put ((altL (T.take k)).map altV) (altV (altC (altL (T.take k)) c));rw[List.length_map,hal,←List.map_singleton (f:=altV),←List.map_append]at hput;have hmf:mfind false [0] (.int .i64 k) (entN 0 ((altL (T.take k)).map altV))=some none:=by
   rw[mfindN false,if_neg (by simp;omega)]
  have hmr:mapN ((altL (T.take k)).map altV)= .map (entN 0 ((altL (T.take k)).map altV)) (List.range k) k:=by unfold mapN;rw[List.length_map,hal]
  rw[hat,←hput];rw[hmr]at q ⊢;generalize altC (altL (T.take k)) c=R at*;generalize entN 0 ((altL (T.take k)).map altV)=E at*;have hRV:altV R= .list (R.map F.V):=rfl;rw[hRV];obtain⟨refs,body⟩:=c;simp only[Clm.V,nums]at*;simp at hcv;rw[if_pos (by omega),awp_skip];simp only[Zge 188 7];simp[hcv,putL];simp only[Zge 188 8];simp;by_cases hr0:refs=[]
  ·rw[if_pos hr0]at q;refine⟨_,_,q,?_⟩;simp[Zge 188 9,Zge 188 10,keyOK,V.eqL,V.eq1,hmf,Zge 188 11,w1,hkl];exact hJ.app hlc
  ·rw[if_neg hr0]at q;refine⟨_,_,q,?_⟩;simp[Zge 188 9,Zge 188 10,keyOK,V.eqL,V.eq1,hmf,Zge 188 11,w1,hkl];exact hJ.app hlc
 ·have hk2:k=m:=by omega
  subst hk2;rw[if_neg (by omega),awp_exit];exact hQ _ _ rfl rfl
set_option maxRecDepth 100000 in
theorem p24 (T:List Clm) (hT:AltOK T) (hok:∀c∈T,c.ok) (hz:clmsE T=0) (i:Nat) (hi:i <T.length):PSp Tryz.prog GLx 188 [.list (T.map Clm.V),.int .i64 i] [.list ((altAt T i).map F.V),.int .i64 0]:=by
 refine psp_of_fsp (args:=[_,_]) (rets:=[_,_]) ?_;refine fsp_low (Zkk 188) rfl (Nat.le_refl _) (by intro row h;cases h) (by simp[D.lt]) ?_;have hlen:=hT.len;have q1:=(p63 T hok (by omega) hz i hi).fsp;have hloop:=l24 T hT [] (by intro row h;cases h) (.int .i64 i) (i+1) hi;have w1:IntKind.i64.wrap ((i:Int)+1)=i+1:=wrap_i64 (by omega) (by omega);have e1:((i:Int)+1).toNat=i+1:=by omega
 have hho:=ho_clm T;obtain⟨f,hf⟩:∃f,(altL T)[i]?=some f:=⟨_,List.getElem?_eq_getElem (by rw[altL_len];exact hi)⟩;have hf2:(altL (T.take (i+1)))[i]?=some f:=by
  rw[altL_pre T (i+1) hi,List.getElem?_take,if_pos (by omega)];exact hf
 have hfa:altAt T i=f:=by unfold altAt;simp[hf]
 have hn:((altL (T.take (i+1))).map altV).length=i+1:=by rw[List.length_map,altL_len,List.length_take];omega
 have hm:mfind false [0] (.int .i64 i) (entN 0 ((altL (T.take (i+1))).map altV))=some (some i):=by
  rw[mfindN false,if_pos (by rw[hn];omega)];simp
 have hg:(entN 0 ((altL (T.take (i+1))).map altV))[i]?=some (.int .i64 i,.list (f.map F.V)):=by
  have:=entN_get ((altL (T.take (i+1))).map altV) 0 i (altV f) (by simp[hf2]);simpa[altV]using this
 rw[hfa];unfold mapN at hloop;generalize (altL (T.take (i+1))).map altV=es at*;simp only[Zga 188,awp_seq,awp_reg,awp_block,awp_cond,Zge 188 0,entryD];simp;simp only[Zge 188 1];simp;refine⟨_,_,q1 _,?_⟩;simp[Zge 188 2,awp_skip,Zge 188 4];simp only[Zge 188 5];simp[w1,e1,hho,show 0≤(i:Int)+1 by omega,show i+1≤T.length from hi];simp[entN]at hloop;refine hloop _ ?_;intro e J g1 g7;simp[Zge 188 12,g1,g7,keyOK,V.eqL,V.eq1,hm,hg,lookD,Zge 188 13,Zge 188 15,awp_ret,Zgr 188]
structure P3 (f:F):Prop where
 sz:f.size≤3
 dp:f.depth≤2
 cl:∀g∈f.nodes,okC 6 g=true
 op:f.op≠5
theorem P3.tops {f:F} (h:P3 f):f.tops=[f]:=by
 have h5:=h.op;obtain⟨o,n,i,k⟩:=f;rw[F.tops_eq,if_neg (show ¬o=5 from h5)]
structure CsP (T:List Clm):Prop where
 n:T.length≤3
 cp:∀c∈T,CP c
 low:∀(k:Nat) (c:Clm),T[k]?=some c→∀r∈c.refs,0≤r∧r <(k:Int)
 z:clmsE T=0
 tiny:∀c∈T,c.tiny
theorem CsP.mean {T:List Clm} (h:CsP T):MeanOK T where
 len:=by have:=h.n;omega
 ok:=λc hc=>(h.tiny c hc).ok
 refs:=λc hc=>by have:=(h.cp c hc).lr;omega
 low:=h.low
 mean:=λf hf=>by have:=meanL_all T h.n h.cp h.low f hf;exact⟨this.1,this.2.1⟩
theorem CsP.fine {r:Rgt} (h:CsP r.claims) (hb:r.bad.length≤2^40):r.fine 6:=⟨hb,h.mean,h.z,λf hf=>(meanL_all r.claims h.n h.cp h.low f hf).2.2⟩
theorem CsP.altOK {T:List Clm} (h:CsP T):AltOK T:=by
 have hk2:∀(k:Nat) (c:Clm),T[k]?=some c→k≤2:=λk c hk=>by
  have:=(List.getElem?_eq_some_iff.1 hk).1;have:=h.n;omega
 have hlB:∀k,k≤2→lB k≤32:=λk hk=>by
  have:=lB_le hk;have e2:lB 2=32:=by decide
  omega
 refine⟨by have:=h.n;omega,λc hc=>?_,h.low,?_,?_,?_⟩
 ·have hcp:=h.cp c hc;exact⟨(hcp.body.ok (by decide) (by decide)).1,by have:=hcp.nt;omega,by have:=hcp.lr;omega⟩
 ·intro k c hk r hr a ha b hb;have h0:c.refs≠[]:=λe=>by rw[e]at hr;cases hr
  have hmem:mkA a b∈altC (altL (T.take k)) c:=by
   unfold altC;rw[if_neg h0];exact List.mem_flatMap.2 ⟨r,hr,List.mem_flatMap.2 ⟨a,ha,List.mem_map.2 ⟨b,hb,rfl⟩⟩⟩
  have h2:=(altC_ok T h.cp h.low k c hk).2 _ hmem;have hkk:=hk2 k c hk;have:=h2.all.ok (by omega) (by omega);exact⟨this.1,this.2.1⟩
 ·intro k c hk j hj;by_cases h0:c.refs=[]
  ·simp[h0]
  ·have h1:=(altC_ok T h.cp h.low k c hk).1;have hkk:=hlB k (hk2 k c hk);have e:altC (altL (T.take k)) c=c.refs.flatMap λr=>(((altL (T.take k))[r.toNat]?).getD []).flatMap λa=>c.body.tops.map λb=>mkA a b:=by
    unfold altC;rw[if_neg h0]
   rw[e]at h1;have hle:((c.refs.take j).flatMap λr=>(((altL (T.take k))[r.toNat]?).getD []).flatMap λa=>c.body.tops.map (mkA a)).length≤(c.refs.flatMap λr=>(((altL (T.take k))[r.toNat]?).getD []).flatMap λa=>c.body.tops.map λb=>mkA a b).length:=by
    conv=>rhs;rw[←List.take_append_drop j c.refs,List.flatMap_append,List.length_append]
    exact Nat.le_add_right _ _
   omega
 ·intro k c hk r hr;have hrl:=h.low k c hk r hr;have hkk:=hk2 k c hk;have hkl:=(List.getElem?_eq_some_iff.1 hk).1;obtain⟨c',hc'⟩:∃c',T[r.toNat]?=some c':=⟨_,List.getElem?_eq_getElem (by omega)⟩;have h2:=altL_at T hc' k (by omega) (by omega);rw[h2,Option.getD_some];have h1:=(altC_ok T h.cp h.low r.toNat c' hc').1;have:=hlB r.toNat (by omega);omega
theorem p24c {T:List Clm} (h:CsP T) (i:Nat) (hi:i <T.length):PSp Tryz.prog GLx 188 [.list (T.map Clm.V),.int .i64 i] [.list ((altAt T i).map F.V),.int .i64 0]:=
 p24 T h.altOK (λc hc=>(h.tiny c hc).ok) h.z i hi
theorem KYr {fid r:Nat} {h:List Row} {ks:List Int} (hK:KY fid r h (ks.map (.int .i64))):
  FSp Tryz.prog GLx 348 [.func fid [.ref r 0]] h [.v (.list (ks.map (.int .i64)))] (h++[.dead,.dead,.dead]):=pK291 hK
theorem PrL_ok:Snp Tryz.prog GLx PrL:=by
 intro f args h x hx t hk;unfold PrL at hx;split at hx
 ·rename_i fid r;cases hf:(Nat.beq fid 349||Nat.beq fid 384)with
  |false=>rw[hf]at hx;cases hx
  |true=>
   rw[hf,cond_true]at hx;have hf':fid=349∨fid=384:=by
    rcases Bool.or_eq_true_iff.1 hf with h|h
    ·exact .inl (Nat.eq_of_beq_eq_true h)
    ·exact .inr (Nat.eq_of_beq_eq_true h)
   split at hx
   ·rename_i hr;have hr':=hk.get (P:=Tryz.prog) (GL:=GLx) hr (by simp);simp only[Option.some.injEq]at hx;subst hx;exact KYr (ks:=[]) ⟨hf',.inl ⟨rfl,hr'⟩⟩
   ·rename_i m hr;have hr':=hk.get (P:=Tryz.prog) (GL:=GLx) hr (by simp);split at hx
    ·rename_i ck hm;have hm':=hk.get (P:=Tryz.prog) (GL:=GLx) hm (by simp);simp only[Option.some.injEq]at hx;subst hx;exact KYr (ks:=[]) ⟨hf',.inr (.inl ⟨rfl,m,ck,hr',hm'⟩)⟩
    ·rename_i k v c ck hm;have hm':=hk.get (P:=Tryz.prog) (GL:=GLx) hm (by simp);simp only[Option.some.injEq]at hx;subst hx;exact KYr (ks:=[k]) ⟨hf',.inr (.inr ⟨_,v,m,c,ck,rfl,hr',hm'⟩)⟩
    ·cases hx
   ·cases hx
 ·cases hx
theorem p492 (L:List (List Int)) (hL:L.length≤2^20) (hn:L.flatten.length≤2^30):PSp Tryz.prog GLx 550 [.list (L.map λl=> .list (l.map (.int .i64)))] [.list (L.flatten.map (.int .i64))]:=by
 refine psp_of_awp (Zkk 550) rfl ?_;have hh:∀l:List Int,headOK 1 (l.map (.int .i64))=true:=headOK_int .i64;have q:=p516 L.flatten.length hn [];obtain⟨U,hU⟩:∃U:Nat→List Int,∀k,U k=(L.take k).flatten:=⟨_,λ_=>rfl⟩;have hU0:U 0=[]:=by rw[hU];rfl
 have hUn:U L.length=L.flatten:=by rw[hU,List.take_length]
 have hUs:∀k l,L[k]?=some l→U (k+1)=U k++l:=by
  intro k l h;rw[hU,hU,List.take_add_one,h];simp
 have hUl:∀k,(U k).length≤L.flatten.length:=by
  intro k;rw[hU];conv=>rhs;rw[←List.take_append_drop k L,List.flatten_append,List.length_append]
  omega
 rw[←hUn]at q hUl ⊢;rw[←hUn]at hn;simp only[Zga 550,awp_seq,awp_reg,awp_block,Zge 550 0,Zge 550 1,Zge 550 2,entry];simp;refine awp_loop_nat0 L.length (λk=>⟨[(0,.v (.list (L.map λl=> .list (l.map (.int .i64))))),(3,.v (.int .i64 (U k).length)),(9,.v (.list (L.map λl=> .list (l.map (.int .i64))))),(10,.v (.int .i64 L.length)),(11,.v (.int .i64 k))],[]⟩) (by simp[hU0]) ?_;intro k hk;simp only[Zgl 550 0,awp_seq,awp_reg,awp_block,awp_cond,Zge 550 3];simp;by_cases h1:k <L.length
 ·obtain⟨l,hl⟩:∃l,L[k]?=some l:=⟨_,List.getElem?_eq_getElem h1⟩;have w1:IntKind.i64.wrap ((k:Int)+1)=k+1:=wrap_i64 (by omega) (by omega);have hle:=hUl (k+1);rw[hUs k l hl,List.length_append]at hle;rw[hUs k l hl,List.length_append];generalize (U k).length=s at*;have w2:IntKind.i64.wrap ((s:Int)+l.length)=s+l.length:=wrap_i64 (by omega) (by omega);have w3:¬((s:Int)+l.length <0):=by omega
  rw[if_pos (by omega),awp_skip];simp only[Zge 550 4,Zge 550 5,Zge 550 6];have hl':L[k]'h1=l:=by have:=List.getElem?_eq_getElem h1;rw[hl]at this;exact(Option.some.inj this).symm
  simp[hl',w2,w3,awp_skip,Zge 550 8,w1,h1]
 ·have hk2:k=L.length:=by omega
  subst hk2;rw[if_neg (by omega),awp_exit];simp only[Zge 550 9];simp;refine⟨_,_,q,?_⟩;simp[Zge 550 10];refine awp_loop_nat0 L.length (λk=>⟨[(6,.own 3 1 ((U k).map (.int .i64))),(25,.v (.list (L.map λl=> .list (l.map (.int .i64))))),(26,.v (.int .i64 L.length)),(27,.v (.int .i64 k))],[]⟩) (by simp[hU0]) ?_;intro k hk;simp only[Zgl 550 1,awp_seq,awp_reg,awp_block,awp_cond,Zge 550 11];simp;by_cases h1:k <L.length
  ·obtain⟨l,hl⟩:∃l,L[k]?=some l:=⟨_,List.getElem?_eq_getElem h1⟩;have w1:IntKind.i64.wrap ((k:Int)+1)=k+1:=wrap_i64 (by omega) (by omega);have hle:=hUl (k+1);rw[hUs k l hl,List.length_append]at hle;rw[hUs k l hl,List.map_append];generalize U k=s at*;have hroom:roomy (s.length+l.length) 8=true:=by simp[roomy];omega
   rw[if_pos (by omega),awp_skip];simp only[Zge 550 12,Zge 550 13];have hl':L[k]'h1=l:=by have:=List.getElem?_eq_getElem h1;rw[hl]at this;exact(Option.some.inj this).symm
   simp[hl',hh,hroom,Zge 550 14,w1,h1]
  ·have hk3:k=L.length:=by omega
   subst hk3;rw[if_neg (by omega),awp_exit];simp[Zge 550 15,awp_ret,Zgr 550]
def tlS:TL:=[te 254,te 344,te 549,te 570,te 577]
theorem tlS_ok:tlS.all ck=true:=by kernel_rfl
theorem s491:(evn npL (λ_ _=>none) (λf=>lookT tlS f) noP 400).Pf 549 [.list [],.func 533 []]=some []:=by kernel_rfl
theorem p466:PSp Tryz.prog GLx 525 [vL [],vL []] [vL [],0]:=by
 have q:=(psp_of_evn (lookT_ok tlS_ok) noP_ok (λ_ _ _ h=>by cases h) s491).fsp;refine psp_of_awp (Zkk 525) rfl ?_;simp only[Zga 525,awp_seq,awp_reg,awp_block,Zge 525 0,Zge 525 1,Zge 525 2,entry];simp;refine awp_loop_end ?_;simp only[Zgl 525 0,awp_seq,awp_reg,awp_block,awp_cond,Zge 525 3];simp[awp_exit,Zge 525 7,Zge 525 8];refine awp_loop_end ?_;simp only[Zgl 525 1,awp_seq,awp_reg,awp_block,awp_cond,Zge 525 9];simp[awp_exit,Zge 525 20];refine awp_loop_end ?_;simp only[Zgl 525 2,awp_seq,awp_reg,awp_block,awp_cond,Zge 525 21,awpOps_plain,awpI];refine .inr ⟨1,0,0,[],[],[],rfl,rfl,rfl,?_,?_⟩
 ·intro _;simp[awp_exit,Zge 525 24];refine⟨_,_,q _,?_⟩;simp[Zge 525 25,awp_ret,Zgr 525];rfl
 ·intro i y kv h;simp at h
def F1:F:= .mk 1 0 [] []
def C1:Clm:=⟨[],F1⟩
theorem F1_FP:FP 1 1 F1:=by
 unfold F1;refine⟨λg hg=>?_,by rw[F.size_eq];simp,by simp[F.depth,F.depths]⟩;rw[F.nodes_eq]at hg;have:g= .mk 1 0 [] []:=by simpa using hg
 subst this;refine⟨⟨by simp[F.op,i64],by simp[F.n,i64],by simp[F.ins],by simp[F.ins]⟩,by simp[formedF,F.op,F.n,F.ins,F.kids],by simp[okC,F.op,F.n]⟩
theorem C1_CP:CP C1:=by
 have ht:C1.body.tops=[F1]:=by
  show F.tops (.mk 1 0 [] [])=_;rw[F.tops_eq,if_neg (by decide)];rfl
 refine⟨by simp[C1],F1_FP.mono (by decide) (by decide),by rw[ht];simp,?_⟩;rw[ht];intro p hp;rw[List.mem_singleton.1 hp];exact F1_FP.mono (by decide) (by decide)
theorem C1_CsP:CsP [C1]:=by
 refine⟨by simp,by simpa using C1_CP,?_,?_,?_⟩
 ·intro k c hk r hr
  match k with
  |0=>simp at hk;subst hk;simp[C1]at hr
  |k+1=>simp at hk
 ·kernel_rfl
 ·intro c hc;simp at hc;subst hc;exact⟨by simp[C1],by simp[C1],(tiny_node (m:=0) (by simp[i64]) (by simp)).mono (by simp)⟩
theorem alt1:altAt [C1] 0=[F1]:=by kernel_rfl
theorem b160:([dv5,dv6,dv7,dv8,dv9,dv10,dv40].all λx=>match x with| .agg a=>a.length==19&&bareOK a|_=>false)=true:=by kernel_rfl
theorem rB_ok:rB.ok Tryz.prog GLx:=by
 intro x hx y hy;unfold rB at hx;simp only[List.mem_cons,List.not_mem_nil,or_false]at hx;rcases hx with rfl|rfl|rfl|rfl|rfl|rfl
 ·simp only[List.mem_singleton]at hy;subst hy;exact p4v
 ·simp only[List.mem_singleton]at hy;subst hy;have:=p24c C1_CsP 0 (by simp);rw[show ((0:Nat):Int)=0 from rfl,alt1]at this;exact this
 ·simp only[List.mem_singleton]at hy;subst hy;exact p466
 ·simp only[List.mem_singleton]at hy;subst hy;exact p140 [[],[]] (by decide) (by decide)
 ·simp only[List.mem_cons,List.not_mem_nil,or_false]at hy;rcases hy with rfl|rfl|rfl
  ·exact p492 [[],[]] (by decide) (by decide)
  ·exact p492 [[],[0]] (by decide) (by decide)
  ·exact p492 [[0],[]] (by decide) (by decide)
 ·have hb:∀d∈[dv5,dv6,dv7,dv8,dv9,dv10,dv40],PSp Tryz.prog GLx 202 [d] [vt]:=by
   intro d hd;have h:=List.all_eq_true.1 b160 d hd;split at h
   ·rename_i a;simp only[Bool.and_eq_true,beq_iff_eq]at h;exact bare_ok a h.1 h.2
   ·cases h
  simp only[List.mem_cons,List.not_mem_nil,or_false]at hy;rcases hy with rfl|rfl|rfl|rfl|rfl|rfl|rfl<;>exact hb _ (by simp)
end Go.Va
