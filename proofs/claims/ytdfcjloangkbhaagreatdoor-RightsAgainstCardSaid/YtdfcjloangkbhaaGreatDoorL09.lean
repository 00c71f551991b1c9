/- Laws, part 9. No condition. -/
import Derived.Shelf.Spec.SlicesGrow
import Derived.Test.YtdfcjloangkbhaaGreatDoorL08
set_option linter.all false
set_option maxRecDepth 100000
set_option maxHeartbeats 4000000
noncomputable section
namespace Go.Va
open Go.Proofs
structure FP (s d:Nat) (f:F):Prop where
 nd:∀g∈f.nodes,g.ok1∧formedF g=true∧okC 6 g=true
 sz:f.size≤s
 dp:f.depth≤d
theorem FP.mono {s d s' d':Nat} {f:F} (h:FP s d f) (hs:s≤s') (hd:d≤d'):FP s' d' f:=⟨h.nd,Nat.le_trans h.sz hs,Nat.le_trans h.dp hd⟩
theorem FP.ok {s d:Nat} {f:F} (h:FP s d f) (hs:s≤96) (hd:d≤8):f.ok∧formE f=0∧f.nodes.all (okC 6)=true:=by
 have h1:=h.sz;have h2:=h.dp;refine⟨⟨λg hg=>(h.nd g hg).1,by omega⟩,?_,List.all_eq_true.2 λg hg=>(h.nd g hg).2.2⟩;unfold formE;rw[if_neg (by omega),if_pos (List.all_eq_true.2 λg hg=>(h.nd g hg).2.1)]
theorem depths_max {d:Nat}:∀ {l:List F},(∀k∈l,k.depth≤d)→F.depths l≤d
 |[],_=>by simp[F.depths]
 |k::ks,h=>by
  have h1:=h k (by simp);have h2:=depths_max (l:=ks) λx hx=>h x (by simp[hx]);simp only[F.depths];omega
theorem FP.node {op:Int} (ho:op=4∨op=5) {kids:List F} {s d n:Nat} (hk:∀k∈kids,FP n d k) (hs:(kids.map F.size).sum≤s):FP (1+s) (d+1) (.mk op 0 [] kids):=by
 refine⟨λg hg=>?_,by rw[F.size_eq];omega,?_⟩
 ·rw[F.nodes_eq]at hg;rcases List.mem_cons.1 hg with rfl|hg
  ·refine⟨⟨?_,by simp[F.n,i64],by simp[F.ins],by simp[F.ins]⟩,?_,?_⟩
   ·rcases ho with rfl|rfl<;>simp[F.op,i64]
   ·rcases ho with rfl|rfl<;>simp[formedF,F.op,F.n,F.ins]
   ·rcases ho with rfl|rfl<;>simp[okC,F.op]
  ·obtain⟨k,hk1,hk2⟩:=List.mem_flatMap.1 hg;exact(hk k hk1).nd g hk2
 ·have:=depths_max (l:=kids) λk hkk=>(hk k hkk).dp;simp only[F.depth];omega
structure CP (c:Clm):Prop where
 lr:c.refs.length≤2
 body:FP 7 3 c.body
 nt:c.body.tops.length≤2
 tops:∀p∈c.body.tops,FP 3 2 p
def sB:Nat→Nat
 |0=>7
 |k+1=>9+2*sB k
theorem sB_le {a b:Nat} (h:a≤b):sB a≤sB b:=by
 induction h with
 |refl=>exact Nat.le_refl _
 |step _ ih=>simp only[sB];omega
theorem sum_le {α:Type} (f:α→Nat) (n:Nat):∀l:List α,(∀x∈l,f x≤n)→(l.map f).sum≤n*l.length
 |[],_=>by simp
 |x::l,h=>by
  have h1:=h x (by simp);have h2:=sum_le f n l λy hy=>h y (by simp[hy]);simp only[List.map_cons,List.sum_cons,List.length_cons,Nat.mul_succ];omega
theorem meanC_ok (T:List Clm) (hc:∀c∈T,CP c) (hlow:∀(k:Nat) (c:Clm),T[k]?=some c→∀r∈c.refs,0≤r∧r <(k:Int)):∀(k:Nat) (c:Clm),T[k]?=some c→FP (sB k) (3+2*k) (meanC (meanL (T.take k)) c):=by
 intro k;induction k using Nat.strongRecOn with
 |_ k ih=>
  intro c hk;have hcp:=hc c (List.mem_of_getElem? hk);unfold meanC;by_cases h0:c.refs=[]
  ·rw[if_pos h0];exact hcp.body.mono (sB_le (Nat.zero_le k)) (by omega)
  ·rw[if_neg h0];have hkl:k <T.length:=(List.getElem?_eq_some_iff.1 hk).1;have hk0:0 <k:=by
    obtain⟨r,hr⟩:=List.exists_mem_of_ne_nil _ h0;have:=hlow k c hk r hr;omega
   obtain⟨j,rfl⟩:∃j,k=j+1:=⟨k-1,by omega⟩;have hm:∀r∈c.refs,FP (sB j) (3+2*j) (((meanL (T.take (j+1)))[r.toNat]?).getD c.body):=by
    intro r hr;have hrl:=hlow _ c hk r hr;have hrk:r.toNat <j+1:=by omega
    obtain⟨c',hc'⟩:∃c',T[r.toNat]?=some c':=⟨_,List.getElem?_eq_getElem (by omega)⟩;have h1:=ih r.toNat hrk c' hc';have h2:(meanL (T.take (j+1)))[r.toNat]?=some (meanC (meanL (T.take r.toNat)) c'):=by
     have e1:(meanL (T.take (r.toNat+1)))[r.toNat]?=some (meanC (meanL (T.take r.toNat)) c'):=by
      rw[meanL_take T hc'];have:(meanL (T.take r.toNat)).length=r.toNat:=by rw[meanL_len,List.length_take];omega
      rw[List.getElem?_append_right (by omega),this,Nat.sub_self];rfl
     rw[meanL_pre T (r.toNat+1) (by omega),List.getElem?_take,if_pos (by omega)]at e1;rw[meanL_pre T (j+1) (by omega),List.getElem?_take,if_pos hrk];exact e1
    rw[h2,Option.getD_some];exact h1.mono (sB_le (by omega)) (by omega)
   have hor:FP (1+sB j*c.refs.length) (3+2*j+1) (.mk 5 0 [] (c.refs.map λr=>((meanL (T.take (j+1)))[r.toNat]?).getD c.body)):=by
    refine FP.node (.inr rfl) (n:=sB j) (λf hf=>?_) ?_
    ·obtain⟨r,hr,rfl⟩:=List.mem_map.1 hf;exact hm r hr
    ·have:=sum_le F.size (sB j) (c.refs.map λr=>((meanL (T.take (j+1)))[r.toNat]?).getD c.body) λf hf=>by
      obtain⟨r,hr,rfl⟩:=List.mem_map.1 hf;exact(hm r hr).sz
     rw[List.length_map]at this;exact this
   have hl2:sB j*c.refs.length≤sB j*2:=Nat.mul_le_mul_left _ hcp.lr;have h7:7≤sB j:=sB_le (Nat.zero_le j);have hand:=FP.node (op:=4) (.inl rfl) (kids:=[c.body,.mk 5 0 [] (c.refs.map λr=>((meanL (T.take (j+1)))[r.toNat]?).getD c.body)]) (s:=8+sB j*2) (d:=3+2*j+1) (n:=7+(1+sB j*2)) (λf hf=>by
    simp only[List.mem_cons,List.not_mem_nil,or_false]at hf;rcases hf with rfl|rfl
    ·exact hcp.body.mono (by omega) (by omega)
    ·exact hor.mono (by omega) (Nat.le_refl _)) (by
    have h1:=hcp.body.sz;have h2:=hor.sz;simp only[List.map_cons,List.map_nil,List.sum_cons,List.sum_nil];omega)
   refine hand.mono ?_ (by omega);simp only[sB];omega
theorem meanL_all (T:List Clm) (hn:T.length≤3) (hc:∀c∈T,CP c) (hlow:∀(k:Nat) (c:Clm),T[k]?=some c→∀r∈c.refs,0≤r∧r <(k:Int)):∀f∈meanL T,f.ok∧formE f=0∧f.nodes.all (okC 6)=true:=by
 intro f hf;obtain⟨k,hk⟩:=List.mem_iff_getElem?.1 hf;have hkl:k <T.length:=by rw[←meanL_len T];exact(List.getElem?_eq_some_iff.1 hk).1
 obtain⟨c,hck⟩:∃c,T[k]?=some c:=⟨_,List.getElem?_eq_getElem hkl⟩;have h1:=meanC_ok T hc hlow k c hck;have h2:(meanL T)[k]?=some (meanC (meanL (T.take k)) c):=by
  have e1:(meanL (T.take (k+1)))[k]?=some (meanC (meanL (T.take k)) c):=by
   rw[meanL_take T hck];have:(meanL (T.take k)).length=k:=by rw[meanL_len,List.length_take];omega
   rw[List.getElem?_append_right (by omega),this,Nat.sub_self];rfl
  rw[meanL_pre T (k+1) (by omega),List.getElem?_take,if_pos (by omega)]at e1;exact e1
 rw[hk]at h2;simp only[Option.some.injEq]at h2;subst h2;have hs:sB k≤sB 2:=sB_le (by omega);have e2:sB 2=55:=by decide
 exact h1.ok (by omega) (by omega)
theorem altL_len (l:List Clm):(altL l).length=l.length:=by
 have:∀(l:List Clm) (acc:List (List F)),(l.foldl (λacc c=>acc++[altC acc c]) acc).length=acc.length+l.length:=by
  intro l;induction l with
  |nil=>simp
  |cons c l ih=>intro acc;rw[List.foldl_cons,ih];simp;omega
 have h:=this l [];rw[List.length_nil,Nat.zero_add]at h;exact h
theorem altL_take (l:List Clm) {k:Nat} {c:Clm} (h:l[k]?=some c):altL (l.take (k+1))=altL (l.take k)++[altC (altL (l.take k)) c]:=by
 rw[List.take_add_one,h];unfold altL;rw[List.foldl_append];rfl
theorem altL_pre (l:List Clm):∀k,k≤l.length→altL (l.take k)=(altL l).take k:=by
 have:∀(l m:List Clm),(altL (l++m)).take l.length=altL l:=by
  intro l m;unfold altL;rw[List.foldl_append];have:∀(m:List Clm) (acc:List (List F)),∃t,m.foldl (λacc c=>acc++[altC acc c]) acc=acc++t:=by
   intro m;induction m with
   |nil=>intro acc;exact⟨[],by simp⟩
   |cons c m ih=>
    intro acc;obtain⟨t,ht⟩:=ih (acc++[altC acc c]);exact⟨[altC acc c]++t,by rw[List.foldl_cons,ht];simp⟩
  obtain⟨t,ht⟩:=this m (l.foldl (λacc c=>acc++[altC acc c]) []);rw[ht];have:=altL_len l;unfold altL at this;rw[List.take_append_of_le_length (by omega),List.take_of_length_le (by omega)]
 intro k hk;have h:=this (l.take k) (l.drop k);rw[List.take_append_drop]at h;rw[←h,List.length_take,Nat.min_eq_left hk]
theorem altL_at (l:List Clm) {k:Nat} {c:Clm} (h:l[k]?=some c) (n:Nat) (hn:k <n) (hl:n≤l.length):(altL (l.take n))[k]?=some (altC (altL (l.take k)) c):=by
 have hkl:k <l.length:=(List.getElem?_eq_some_iff.1 h).1;have e1:(altL (l.take (k+1)))[k]?=some (altC (altL (l.take k)) c):=by
  rw[altL_take l h];have:(altL (l.take k)).length=k:=by rw[altL_len,List.length_take];omega
  rw[List.getElem?_append_right (by omega),this,Nat.sub_self];rfl
 rw[altL_pre l (k+1) (by omega),List.getElem?_take,if_pos (by omega)]at e1;rw[altL_pre l n hl,List.getElem?_take,if_pos hn];exact e1
structure AP (s:Nat) (f:F):Prop where
 parts:∀p∈partsF f,FP s 2 p
 sum:((partsF f).map F.size).sum≤s
 all:FP (s+1) 3 f
theorem AP.mono {s s':Nat} {f:F} (h:AP s f) (hs:s≤s'):AP s' f:=⟨λp hp=>(h.parts p hp).mono hs (Nat.le_refl _),Nat.le_trans h.sum hs,h.all.mono (by omega) (Nat.le_refl _)⟩
theorem AP.piece {f:F} (h:FP 3 2 f):AP 3 f:=by
 have hall:FP 4 3 f:=h.mono (by decide) (by decide);obtain⟨op,n,ins,kids⟩:=f;have hsz:=h.sz;have hdp:=h.dp;rw[F.size_eq]at hsz;by_cases h4:op=4
 ·have hp:partsF (.mk op n ins kids)=kids:=by simp[partsF,F.op,F.kids,h4]
  refine⟨λp hpm=>?_,?_,hall⟩
  ·rw[hp]at hpm;have h1:=F.kid_size hpm;refine⟨λg hg=>h.nd g ?_,by omega,?_⟩
   ·rw[F.nodes_eq];exact List.mem_cons_of_mem _ (List.mem_flatMap.2 ⟨p,hpm,hg⟩)
   ·have:∀(l:List F),p∈l→p.depth≤F.depths l:=by
     intro l;induction l with
     |nil=>intro h;cases h
     |cons x l ih=>
      intro h;simp only[F.depths];rcases List.mem_cons.1 h with rfl|h
      ·omega
      ·have:=ih h;omega
    have:=this kids hpm;simp only[F.depth]at hdp;omega
  ·rw[hp];omega
 ·have hp:partsF (.mk op n ins kids)=[.mk op n ins kids]:=by simp[partsF,F.op,h4]
  refine⟨λp hpm=>?_,?_,hall⟩
  ·rw[hp]at hpm;rw[List.mem_singleton.1 hpm];exact h
  ·rw[hp];simp only[List.map_cons,List.map_nil,List.sum_cons,List.sum_nil,F.size_eq];omega
theorem AP.mkA {s s':Nat} {a b:F} (ha:AP s a) (hb:AP s' b):AP (s+s') (mkA a b):=by
 have hp:partsF (Go.Va.mkA a b)=partsF a++partsF b:=by simp[Go.Va.mkA,partsF,F.op,F.kids]
 have hparts:∀p∈partsF a++partsF b,FP (s+s') 2 p:=by
  intro p hpm;rcases List.mem_append.1 hpm with h|h
  ·exact(ha.parts p h).mono (by omega) (Nat.le_refl _)
  ·exact(hb.parts p h).mono (by omega) (Nat.le_refl _)
 have hsum:((partsF a++partsF b).map F.size).sum≤s+s':=by
  rw[List.map_append,List.sum_append];have:=ha.sum;have:=hb.sum;omega
 refine⟨by rw[hp];exact hparts,by rw[hp];exact hsum,?_⟩;have:=FP.node (op:=4) (.inl rfl) hparts hsum;exact this.mono (by omega) (by omega)
def lB:Nat→Nat
 |0=>2
 |k+1=>4*lB k
theorem lB_le {a b:Nat} (h:a≤b):lB a≤lB b:=by
 induction h with
 |refl=>exact Nat.le_refl _
 |step _ ih=>simp only[lB];omega
theorem flat_len_le {α β:Type} (f:α→List β) (n:Nat):∀l:List α,(∀x∈l,(f x).length≤n)→(l.flatMap f).length≤n*l.length
 |[],_=>by simp
 |x::l,h=>by
  have h1:=h x (by simp);have h2:=flat_len_le f n l λy hy=>h y (by simp[hy]);simp only[List.flatMap_cons,List.length_append,List.length_cons,Nat.mul_succ];omega
theorem altC_ok (T:List Clm) (hc:∀c∈T,CP c) (hlow:∀(k:Nat) (c:Clm),T[k]?=some c→∀r∈c.refs,0≤r∧r <(k:Int)):∀(k:Nat) (c:Clm),T[k]?=some c→
  (altC (altL (T.take k)) c).length≤lB k∧∀f∈altC (altL (T.take k)) c,AP (3*(k+1)) f:=by
 intro k;induction k using Nat.strongRecOn with
 |_ k ih=>
  intro c hk;have hcp:=hc c (List.mem_of_getElem? hk);unfold altC;by_cases h0:c.refs=[]
  ·rw[if_pos h0];refine⟨Nat.le_trans hcp.nt (lB_le (Nat.zero_le k)),λf hf=>(AP.piece (hcp.tops f hf)).mono (by omega)⟩
  ·rw[if_neg h0];have hkl:k <T.length:=(List.getElem?_eq_some_iff.1 hk).1;have hk0:0 <k:=by
    obtain⟨r,hr⟩:=List.exists_mem_of_ne_nil _ h0;have:=hlow k c hk r hr;omega
   obtain⟨j,rfl⟩:∃j,k=j+1:=⟨k-1,by omega⟩;have hm:∀r∈c.refs,∃L,((altL (T.take (j+1)))[r.toNat]?).getD []=L∧L.length≤lB j∧∀f∈L,AP (3*(j+1)) f:=by
    intro r hr;have hrl:=hlow _ c hk r hr;have hrk:r.toNat <j+1:=by omega
    obtain⟨c',hc'⟩:∃c',T[r.toNat]?=some c':=⟨_,List.getElem?_eq_getElem (by omega)⟩;obtain⟨h1,h1'⟩:=ih r.toNat hrk c' hc';have h2:=altL_at T hc' (j+1) hrk (by omega);refine⟨_,by rw[h2,Option.getD_some],Nat.le_trans h1 (lB_le (by omega)),λf hf=>(h1' f hf).mono (by omega)⟩
   constructor
   ·have h1:=flat_len_le (λr=>((((altL (T.take (j+1)))[r.toNat]?).getD []).flatMap λa=>c.body.tops.map λb=>Go.Va.mkA a b)) (2*lB j) c.refs (λr hr=>by
     obtain⟨L,hL,hl,_⟩:=hm r hr;rw[hL];have:=flat_len_le (λa=>c.body.tops.map λb=>Go.Va.mkA a b) 2 L (λa _=>by rw[List.length_map];exact hcp.nt);have h3:2*L.length≤2*lB j:=Nat.mul_le_mul_left _ hl;omega)
    have h2:2*lB j*c.refs.length≤2*lB j*2:=Nat.mul_le_mul_left _ hcp.lr;simp only[lB];omega
   ·intro f hf;obtain⟨r,hr,hf⟩:=List.mem_flatMap.1 hf;obtain⟨L,hL,_,hap⟩:=hm r hr;rw[hL]at hf;obtain⟨a,ha,hf⟩:=List.mem_flatMap.1 hf;obtain⟨b,hb,rfl⟩:=List.mem_map.1 hf;exact(AP.mkA (hap a ha) (AP.piece (hcp.tops b hb))).mono (by omega)
theorem altAt_ok (T:List Clm) (hn:T.length≤3) (hc:∀c∈T,CP c) (hlow:∀(k:Nat) (c:Clm),T[k]?=some c→∀r∈c.refs,0≤r∧r <(k:Int)) (k:Nat) (hk:k <T.length):FsOK 6 (altAt T k):=by
 obtain⟨c,hck⟩:∃c,T[k]?=some c:=⟨_,List.getElem?_eq_getElem hk⟩;obtain⟨h1,h2⟩:=altC_ok T hc hlow k c hck;have h3:=altL_at T hck T.length hk (Nat.le_refl _);rw[List.take_length]at h3;have e:altAt T k=altC (altL (T.take k)) c:=by unfold altAt;rw[Int.toNat_natCast,h3];rfl
 rw[e];have hl:lB k≤lB 2:=lB_le (by omega);have e2:lB 2=32:=by decide
 refine⟨by omega,λf hf=>?_⟩;exact(h2 f hf).all.ok (by omega) (by omega)
theorem hold_eq (I:Int→Int→Bool) (op n:Int) (ins:List Ivl) (kids:List F) (t:Th):(F.mk op n ins kids).hold I t=
  if op=1 then t.cs.any λc=>I c n
  else if op=2 then (valT t n).isSome&&hasL ins (valN t n).1 (valN t n).2
  else if op=3 then t.ps.any λp=>F.hold1 I kids p
  else if op=4 then kids.all λk=>k.hold I t
  else if op=5 then kids.any λk=>k.hold I t
  else if op=6 then !F.hold1 I kids t
  else true:=by
 rw[F.hold,holdA_all,holdO_any]
theorem tops_hold (I:Int→Int→Bool) (t:Th):∀f:F,f.hold I t=true→∃g∈f.tops,g.hold I t=true:=by
 refine F.ind λop n ins kids ih h=>?_;rw[F.tops_eq];by_cases h5:op=5
 ·rw[hold_eq]at h;simp only[h5,Int.reduceEq,if_false,if_true]at h ⊢;obtain⟨k,hk,hh⟩:=List.any_eq_true.1 h;obtain⟨g,hg,hgh⟩:=ih k hk hh;exact⟨g,List.mem_flatMap.2 ⟨k,hk,hg⟩,hgh⟩
 ·rw[if_neg h5];exact⟨_,List.mem_singleton.2 rfl,h⟩
theorem parts_hold (I:Int→Int→Bool) (t:Th) (f:F):((partsF f).all λk=>k.hold I t)=f.hold I t:=by
 obtain⟨op,n,ins,kids⟩:=f;unfold partsF;by_cases h4:op=4
 ·rw[hold_eq];simp[F.op,F.kids,h4]
 ·simp[F.op,h4]
theorem mkA_hold (I:Int→Int→Bool) (t:Th) (a b:F):(mkA a b).hold I t=(a.hold I t&&b.hold I t):=by
 unfold mkA;rw[hold_eq];simp only[Int.reduceEq,if_false,if_true,List.all_append,parts_hold]
theorem meanC_alt (I:Int→Int→Bool) (t:Th) (T:List Clm) (hlow:∀(k:Nat) (c:Clm),T[k]?=some c→∀r∈c.refs,0≤r∧r <(k:Int)):
  ∀(k:Nat) (c:Clm),T[k]?=some c→(meanC (meanL (T.take k)) c).hold I t=true→∃a∈altC (altL (T.take k)) c,a.hold I t=true:=by
 intro k;induction k using Nat.strongRecOn with
 |_ k ih=>
  intro c hc h;have hk:k <T.length:=(List.getElem?_eq_some_iff.1 hc).1;unfold meanC at h;unfold altC;by_cases hr:c.refs=[]
  ·rw[if_pos hr]at h ⊢;exact tops_hold I t _ h
  ·rw[if_neg hr]at h ⊢;rw[hold_eq]at h;simp only[Int.reduceEq,if_false,if_true,List.all_cons,List.all_nil,Bool.and_true,Bool.and_eq_true]at h;obtain⟨hb,ho⟩:=h;rw[hold_eq]at ho;simp only[Int.reduceEq,if_false,if_true]at ho;obtain⟨f,hf,hfh⟩:=List.any_eq_true.1 ho;obtain⟨r,hrr,rfl⟩:=List.mem_map.1 hf;obtain⟨r0,r1⟩:=hlow k c hc r hrr;obtain⟨j,rfl⟩:∃j:Nat,r=j:=⟨r.toNat,by omega⟩;have hjk:j <k:=by omega
   obtain⟨d,hd⟩:∃d,T[j]?=some d:=⟨_,List.getElem?_eq_getElem (by omega)⟩;have e1:(meanL (T.take k))[j]?=some (meanC (meanL (T.take j)) d):=by
    have e1:(meanL (T.take (j+1)))[j]?=some (meanC (meanL (T.take j)) d):=by
     rw[meanL_take T hd];have:(meanL (T.take j)).length=j:=by rw[meanL_len,List.length_take];omega
     rw[List.getElem?_append_right (by omega),this,Nat.sub_self];rfl
    rw[meanL_pre T (j+1) (by omega),List.getElem?_take,if_pos (by omega)]at e1;rw[meanL_pre T k (by omega),List.getElem?_take,if_pos hjk];exact e1
   simp only[Int.toNat_natCast,e1,Option.getD_some]at hfh;obtain⟨a,ha,hah⟩:=ih j hjk d hd hfh;obtain⟨b,hb2,hbh⟩:=tops_hold I t _ hb;refine⟨mkA a b,List.mem_flatMap.2 ⟨j,hrr,?_⟩,by rw[mkA_hold,hah,hbh];rfl⟩;simp only[Int.toNat_natCast,altL_at T hd k hjk (by omega),Option.getD_some];exact List.mem_flatMap.2 ⟨a,ha,List.mem_map.2 ⟨b,hb2,rfl⟩⟩
theorem mean_alt (I:Int→Int→Bool) (t:Th) (T:List Clm) (hlow:∀(k:Nat) (c:Clm),T[k]?=some c→∀r∈c.refs,0≤r∧r <(k:Int)) {i:Nat} (hi:i <T.length) (h:(meanAt T i).hold I t=true):
  ((altAt T i).any λa=>a.hold I t)=true:=by
 obtain⟨c,hc⟩:∃c,T[i]?=some c:=⟨_,List.getElem?_eq_getElem hi⟩;have e1:(meanL T)[i]?=some (meanC (meanL (T.take i)) c):=by
  have e1:(meanL (T.take (i+1)))[i]?=some (meanC (meanL (T.take i)) c):=by
   rw[meanL_take T hc];have:(meanL (T.take i)).length=i:=by rw[meanL_len,List.length_take];omega
   rw[List.getElem?_append_right (by omega),this,Nat.sub_self];rfl
  rw[meanL_pre T (i+1) (by omega),List.getElem?_take,if_pos (by omega)]at e1;exact e1
 have e2:=altL_at T hc T.length hi (Nat.le_refl _);rw[List.take_length]at e2;unfold meanAt at h;simp only[Int.toNat_natCast,e1,Option.getD_some]at h;obtain⟨a,ha,hah⟩:=meanC_alt I t T hlow i c hc h;unfold altAt;simp only[Int.toNat_natCast,e2,Option.getD_some];exact List.any_eq_true.2 ⟨a,ha,hah⟩
theorem map_take_succ {α:Type} {l:List α} {k:Nat} {x:α} (h:l[k]?=some x) (f:α→V):(l.map f).take (k+1)=(l.map f).take k++[f x]:=by
 rw[List.take_add_one,List.getElem?_map,h];rfl
def cMr0 (a b c:Nat):List GI:=[⟨none,.box 1 (.t 0 false)⟩,
 ⟨none,.alloc 2 [.v (.int .i64 0),.v (.int .i64 0),.v (.int .i64 0),.own 89 5 [],.own a 4 [],.own 3 1 [],.own b 3 [],.own c 4 []]⟩]
def cMr1 (a b c:Nat):List GI:=[⟨none,.p 8 (.faddr (.t 1 false) 0 1)⟩,
 ⟨none,.p 9 (.load (.t 8 false) 1 false)⟩,
 ⟨none,.p 10 (.faddr (.t 1 false) 1 1)⟩,
 ⟨none,.p 11 (.load (.t 10 false) 1 false)⟩,
 ⟨none,.p 12 (.faddr (.t 1 false) 2 1)⟩,
 ⟨none,.p 13 (.load (.t 12 false) 1 false)⟩,
 ⟨none,.p 14 (.faddr (.t 1 false) 3 1)⟩,
 ⟨none,.p 15 (.load (.t 14 false) 1 false)⟩,
 ⟨none,.p 16 (.faddr (.t 1 false) 5 1)⟩,
 ⟨none,.p 17 (.load (.t 16 false) 1 false)⟩,
 ⟨none,.p 18 (.build [.v (.int .i64 0),.v (.int .i64 0),.v (.int .i64 0),.nil 89 5,.nil a 4,.nil 3 1,.nil b 3,.nil c 4] [(0,1,(.t 9 false)),(1,1,(.t 11 false)),(2,1,(.t 13 false)),(3,1,(.t 15 false)),(5,1,(.t 17 false))])⟩,
 ⟨none,.alloc 3 [.v (.int .i64 0),.v (.int .i64 0),.v (.int .i64 0),.own 89 5 [],.own a 4 [],.own 3 1 [],.own b 3 [],.own c 4 []]⟩,
 ⟨none,.store (.t 3 false) (.t 18 false) 8⟩]
def cMr2:List GI:=[⟨none,.mv 4 (.c (.v (.int .i64 0)))⟩]
def cMr3:List GI:=[⟨none,.mv 19 (.t 4 false)⟩,
 ⟨none,.p 20 (.faddr (.t 1 false) 4 1)⟩,
 ⟨none,.p 21 (.load (.t 20 false) 1 false)⟩,
 ⟨none,.p 22 (.alen (.t 21 false))⟩,
 ⟨none,.p 23 (.bin .lss (.t 19 false) (.t 22 false))⟩]
def cMr5 (a:Nat):List GI:=[⟨none,.p 26 (.faddr (.t 3 false) 4 1)⟩,
 ⟨none,.take 27 (.t 26 false)⟩,
 ⟨none,.p 28 (.faddr (.t 1 false) 4 1)⟩,
 ⟨none,.p 29 (.load (.t 28 false) 1 false)⟩,
 ⟨none,.mv 30 (.t 4 false)⟩,
 ⟨none,.p 31 (.iaddr (.t 29 false) (.t 30 false) 4)⟩,
 ⟨none,.p 32 (.faddr (.t 31 false) 0 2)⟩,
 ⟨none,.p 33 (.load (.t 32 false) 2 true)⟩,
 ⟨none,.p 34 (.faddr (.t 1 false) 4 1)⟩,
 ⟨none,.p 35 (.load (.t 34 false) 1 false)⟩,
 ⟨none,.mv 36 (.t 4 false)⟩,
 ⟨none,.p 37 (.iaddr (.t 35 false) (.t 36 false) 4)⟩,
 ⟨none,.p 38 (.faddr (.t 37 false) 2 1)⟩,
 ⟨none,.p 39 (.load (.t 38 false) 1 false)⟩,
 ⟨none,.p 40 (.faddr (.t 1 false) 4 1)⟩,
 ⟨none,.p 41 (.load (.t 40 false) 1 false)⟩,
 ⟨none,.mv 42 (.t 4 false)⟩,
 ⟨none,.p 43 (.iaddr (.t 41 false) (.t 42 false) 4)⟩,
 ⟨none,.p 44 (.faddr (.t 43 false) 3 1)⟩,
 ⟨none,.p 45 (.load (.t 44 false) 1 false)⟩,
 ⟨none,.p 46 (.build [.v (.int .i64 0),.v (.int .i64 0),.v (.int .i64 0),.v (.int .i64 0)] [(0,2,(.t 33 false)),(2,1,(.t 39 false)),(3,1,(.t 45 false))])⟩,
 ⟨none,.bsl 47 a 4 [(.t 46 false)]⟩,
 ⟨none,.app 48 (.t 27 true) (.t 47 false) a 4 32⟩,
 ⟨none,.p 49 (.faddr (.t 3 false) 4 1)⟩,
 ⟨none,.store (.t 49 false) (.t 48 true) 1⟩]
def cMr4:List GI:=[⟨none,.mv 24 (.t 4 false)⟩,
 ⟨none,.p 25 (.bin .add (.t 24 false) (.c (.v (.int .i64 1))))⟩,
 ⟨none,.mv 4 (.t 25 false)⟩]
def cMl0 (a:Nat):AC:=(.seq (.seq (.reg cMr3 [1,2,3,4,23]) (.cond (.t 23 false) .skip (.exit 0))) (.seq (.block 1 (.regD (cMr5 a) [1,2,3,4] [[],[0],[],[2],[],[2,3,4],[2,3,4,5],[2,3,4,5,6],[],[8],[],[8,9,10],[8,9,10,11],[8,9,10,11,12],[],[14],[],[14,15,16],[14,15,16,17],[14,15,16,17,18],[2,3,4,5,6,7,8,9,10,11,12,13,14,15,16,17,18,19],[2,3,4,5,6,7,8,9,10,11,12,13,14,15,16,17,18,19,20],[0,1,2,3,4,5,6,7,8,9,10,11,12,13,14,15,16,17,18,19,20,21],[0,1,2,3,4,5,6,7,8,9,10,11,12,13,14,15,16,17,18,19,20,21,22],[0,1,2,3,4,5,6,7,8,9,10,11,12,13,14,15,16,17,18,19,20,21,22,23]])) (.reg cMr4 [1,2,3,4])))
def cMr6:List GI:=[⟨none,.mv 5 (.c (.v (.int .i64 0)))⟩]
def cMr7:List GI:=[⟨none,.mv 50 (.t 5 false)⟩,
 ⟨none,.p 51 (.faddr (.t 1 false) 6 1)⟩,
 ⟨none,.p 52 (.load (.t 51 false) 1 false)⟩,
 ⟨none,.p 53 (.alen (.t 52 false))⟩,
 ⟨none,.p 54 (.bin .lss (.t 50 false) (.t 53 false))⟩]
def cMr9 (b:Nat):List GI:=[⟨none,.p 57 (.faddr (.t 3 false) 6 1)⟩,
 ⟨none,.take 58 (.t 57 false)⟩,
 ⟨none,.p 59 (.faddr (.t 1 false) 6 1)⟩,
 ⟨none,.p 60 (.load (.t 59 false) 1 false)⟩,
 ⟨none,.mv 61 (.t 5 false)⟩,
 ⟨none,.p 62 (.iaddr (.t 60 false) (.t 61 false) 3)⟩,
 ⟨none,.p 63 (.faddr (.t 62 false) 0 1)⟩,
 ⟨none,.p 64 (.load (.t 63 false) 1 false)⟩,
 ⟨none,.p 65 (.faddr (.t 1 false) 6 1)⟩,
 ⟨none,.p 66 (.load (.t 65 false) 1 false)⟩,
 ⟨none,.mv 67 (.t 5 false)⟩,
 ⟨none,.p 68 (.iaddr (.t 66 false) (.t 67 false) 3)⟩,
 ⟨none,.p 69 (.faddr (.t 68 false) 1 2)⟩,
 ⟨none,.p 70 (.load (.t 69 false) 2 true)⟩,
 ⟨none,.p 71 (.build [.v (.int .i64 0),.v (.int .i64 0),.v (.int .i64 0)] [(0,1,(.t 64 false)),(1,2,(.t 70 false))])⟩,
 ⟨none,.bsl 72 b 3 [(.t 71 false)]⟩,
 ⟨none,.app 73 (.t 58 true) (.t 72 false) b 3 24⟩,
 ⟨none,.p 74 (.faddr (.t 3 false) 6 1)⟩,
 ⟨none,.store (.t 74 false) (.t 73 true) 1⟩]
def cMr8:List GI:=[⟨none,.mv 55 (.t 5 false)⟩,
 ⟨none,.p 56 (.bin .add (.t 55 false) (.c (.v (.int .i64 1))))⟩,
 ⟨none,.mv 5 (.t 56 false)⟩]
def cMl1 (b:Nat):AC:=(.seq (.seq (.reg cMr7 [1,2,3,5,54]) (.cond (.t 54 false) .skip (.exit 2))) (.seq (.block 3 (.regD (cMr9 b) [1,2,3,5] [[],[0],[],[2],[],[2,3,4],[2,3,4,5],[2,3,4,5,6],[],[8],[],[8,9,10],[8,9,10,11],[8,9,10,11,12],[2,3,4,5,6,7,8,9,10,11,12,13],[2,3,4,5,6,7,8,9,10,11,12,13,14],[0,1,2,3,4,5,6,7,8,9,10,11,12,13,14,15],[0,1,2,3,4,5,6,7,8,9,10,11,12,13,14,15,16],[0,1,2,3,4,5,6,7,8,9,10,11,12,13,14,15,16,17]])) (.reg cMr8 [1,2,3,5])))
def cMr10:List GI:=[⟨none,.mv 6 (.c (.v (.int .i64 0)))⟩]
def cMr11:List GI:=[⟨none,.mv 75 (.t 6 false)⟩,
 ⟨none,.p 76 (.faddr (.t 1 false) 7 1)⟩,
 ⟨none,.p 77 (.load (.t 76 false) 1 false)⟩,
 ⟨none,.p 78 (.alen (.t 77 false))⟩,
 ⟨none,.p 79 (.bin .lss (.t 75 false) (.t 78 false))⟩]
def cMr13:List GI:=[⟨none,.p 82 (.faddr (.t 1 false) 7 1)⟩,
 ⟨none,.p 83 (.load (.t 82 false) 1 false)⟩,
 ⟨none,.mv 84 (.t 6 false)⟩,
 ⟨none,.p 85 (.iaddr (.t 83 false) (.t 84 false) 4)⟩,
 ⟨none,.p 86 (.load (.t 85 false) 4 true)⟩,
 ⟨none,.alloc 7 [.v (.int .i64 0),.v (.int .i64 0),.v (.int .i64 0),.v (.int .i64 0)]⟩,
 ⟨none,.store (.t 7 false) (.t 86 false) 4⟩]
def cMr14 (c:Nat):List GI:=[⟨none,.p 87 (.faddr (.t 3 false) 7 1)⟩,
 ⟨none,.take 88 (.t 87 false)⟩,
 ⟨none,.p 89 (.faddr (.t 7 false) 0 1)⟩,
 ⟨none,.p 90 (.load (.t 89 false) 1 false)⟩,
 ⟨none,.p 91 (.faddr (.t 7 false) 1 1)⟩,
 ⟨none,.p 92 (.load (.t 91 false) 1 false)⟩,
 ⟨none,.p 93 (.faddr (.t 7 false) 2 1)⟩,
 ⟨none,.p 94 (.load (.t 93 false) 1 false)⟩,
 ⟨none,.p 95 (.faddr (.t 7 false) 3 1)⟩,
 ⟨none,.p 96 (.load (.t 95 false) 1 false)⟩,
 ⟨none,.p 97 (.build [.v (.int .i64 0),.v (.int .i64 0),.v (.int .i64 0),.v (.int .i64 0)] [(0,1,(.t 90 false)),(1,1,(.t 92 false)),(2,1,(.t 94 false)),(3,1,(.t 96 false))])⟩,
 ⟨none,.bsl 98 c 4 [(.t 97 false)]⟩,
 ⟨none,.app 99 (.t 88 true) (.t 98 false) c 4 32⟩,
 ⟨none,.p 100 (.faddr (.t 3 false) 7 1)⟩,
 ⟨none,.store (.t 100 false) (.t 99 true) 1⟩]
def cMr12:List GI:=[⟨none,.mv 80 (.t 6 false)⟩,
 ⟨none,.p 81 (.bin .add (.t 80 false) (.c (.v (.int .i64 1))))⟩,
 ⟨none,.mv 6 (.t 81 false)⟩]
def cMl2 (c:Nat):AC:=(.seq (.seq (.reg cMr11 [1,2,3,6,79]) (.cond (.t 79 false) .skip (.exit 4))) (.seq (.block 5 (.seq (.reg cMr13 [1,2,3,6,7]) (.reg (cMr14 c) [1,2,3,6]))) (.reg cMr12 [1,2,3,6])))
def cMr15:List GI:=[⟨none,.p 101 (.load (.t 3 false) 8 true)⟩,
 ⟨none,.store (.t 2 false) (.t 101 false) 8⟩]
def cM (a b c:Nat):AC:=(.seq (.reg (cMr0 a b c) [1,2]) (.seq (.reg (cMr1 a b c) [1,2,3]) (.seq (.seq (.reg cMr2 [1,2,3,4]) (.block 0 (.loop (cMl0 a)))) (.seq (.seq (.reg cMr6 [1,2,3,5]) (.block 2 (.loop (cMl1 b)))) (.seq (.seq (.reg cMr10 [1,2,3,6]) (.block 4 (.loop (cMl2 c)))) (.seq (.reg cMr15 [2]) .ret))))))
def cMR:List AR:=[.c 2 8 true]
section
variable {a b c:Nat}
def mkL (a b c:Nat) (r:Rgt) (ds:List Dat) (os:List Own) (ls:List Lic):Row:=
 .cells [.v (.int .i64 r.file),.v (.int .i64 r.state),.v (.int .i64 r.force),.v (.list (r.claims.map Clm.V)),.own a 4 (ds.map Dat.V),.v (nums .i64 r.bad),.own b 3 (os.map Own.V),.own c 4 (ls.map Lic.V)]
set_option maxRecDepth 100000 in
theorem l53_0 (r:Rgt) (hn:r.dates.length≤2^30) (R1:Row) (os:List Own) (ls:List Lic):
  awp Tryz.prog GLx (.loop (cMl0 a)) (λe s=>e= .exit 0∧find s.e 1= .ref 0 0∧find s.e 2= .ref 1 0∧find s.e 3= .ref 2 0∧s.h=[r.row,R1,mkL a b c r r.dates os ls])
   ⟨[(1,.ref 0 0),(2,.ref 1 0),(3,.ref 2 0),(4,.v (.int .i64 0))],[r.row,R1,mkL a b c r [] os ls]⟩:=by
 refine awp_loop_nat0 r.dates.length (λk=>⟨[(1,.ref 0 0),(2,.ref 1 0),(3,.ref 2 0),(4,.v (.int .i64 k))],[r.row,R1,mkL a b c r (r.dates.take k) os ls]⟩) (by simp) ?_;intro k hk;simp only[cMl0,awp_seq,awp_reg,awp_block,awp_cond,cMr3];simp[Rgt.row];by_cases hlt:k <r.dates.length
 ·obtain⟨x,hxk⟩:∃x,r.dates[k]?=some x:=⟨_,List.getElem?_eq_getElem hlt⟩;have hxe:r.dates[k]=x:=(List.getElem?_eq_some_iff.1 hxk).2;have hw:IntKind.i64.wrap ((k:Int)+1)=k+1:=wrap_i64 (by omega) (by omega);have hroom:roomy (k+1) 32=true:=by simp[roomy];omega
  have ht:(r.dates.take k).length=k:=by simp;omega
  have hm:min k r.dates.length=k:=by omega
  have e:=map_take_succ hxk Dat.V;rw[if_pos (by omega),awp_skip];simp only[awp_regD,cMr5];simp[hxk,Dat.V,mkL,putL,hm,hroom];simp[cMr4,hw,hlt,e,Dat.V]
 ·have:k=r.dates.length:=by omega
  subst this;rw[if_neg (by omega),awp_exit];simp
set_option maxRecDepth 100000 in
theorem l53_1 (r:Rgt) (hn:r.owners.length≤2^30) (R1:Row) (ds:List Dat) (ls:List Lic):
  awp Tryz.prog GLx (.loop (cMl1 b)) (λe s=>e= .exit 2∧find s.e 1= .ref 0 0∧find s.e 2= .ref 1 0∧find s.e 3= .ref 2 0∧s.h=[r.row,R1,mkL a b c r ds r.owners ls])
   ⟨[(1,.ref 0 0),(2,.ref 1 0),(3,.ref 2 0),(5,.v (.int .i64 0))],[r.row,R1,mkL a b c r ds [] ls]⟩:=by
 refine awp_loop_nat0 r.owners.length (λk=>⟨[(1,.ref 0 0),(2,.ref 1 0),(3,.ref 2 0),(5,.v (.int .i64 k))],[r.row,R1,mkL a b c r ds (r.owners.take k) ls]⟩) (by simp) ?_;intro k hk;simp only[cMl1,awp_seq,awp_reg,awp_block,awp_cond,cMr7];simp[Rgt.row];by_cases hlt:k <r.owners.length
 ·obtain⟨x,hxk⟩:∃x,r.owners[k]?=some x:=⟨_,List.getElem?_eq_getElem hlt⟩;have hxe:r.owners[k]=x:=(List.getElem?_eq_some_iff.1 hxk).2;have hw:IntKind.i64.wrap ((k:Int)+1)=k+1:=wrap_i64 (by omega) (by omega);have hroom:roomy (k+1) 24=true:=by simp[roomy];omega
  have ht:(r.owners.take k).length=k:=by simp;omega
  have hm:min k r.owners.length=k:=by omega
  have e:=map_take_succ hxk Own.V;rw[if_pos (by omega),awp_skip];simp only[awp_regD,cMr9];simp[hxk,Own.V,mkL,putL,hm,hroom];simp[cMr8,hw,hlt,e,Own.V]
 ·have:k=r.owners.length:=by omega
  subst this;rw[if_neg (by omega),awp_exit];simp
set_option maxRecDepth 100000 in
theorem l53_2 (r:Rgt) (hn:r.lics.length≤2^30) (R1:Row) (ds:List Dat) (os:List Own):
  awp Tryz.prog GLx (.loop (cMl2 c)) (λe s=>e= .exit 4∧find s.e 1= .ref 0 0∧find s.e 2= .ref 1 0∧find s.e 3= .ref 2 0∧∃J,s.h=r.row::R1::mkL a b c r ds os r.lics::J)
   ⟨[(1,.ref 0 0),(2,.ref 1 0),(3,.ref 2 0),(6,.v (.int .i64 0))],[r.row,R1,mkL a b c r ds os []]⟩:=by
 refine awp_loop_I r.lics.length (λk s=>s.e=[(1,.ref 0 0),(2,.ref 1 0),(3,.ref 2 0),(6,.v (.int .i64 k))]∧∃J,s.h=r.row::R1::mkL a b c r ds os (r.lics.take k)::J) ⟨by simp,[],by simp⟩ ?_;rintro k ⟨se,sh⟩ hk ⟨he,J2,hh⟩;simp only at he hh;subst he hh;simp only[cMl2,awp_seq,awp_reg,awp_block,awp_cond,cMr11];simp[Rgt.row];by_cases hlt:k <r.lics.length
 ·obtain⟨x,hxk⟩:∃x,r.lics[k]?=some x:=⟨_,List.getElem?_eq_getElem hlt⟩;have hxe:r.lics[k]=x:=(List.getElem?_eq_some_iff.1 hxk).2;have hw:IntKind.i64.wrap ((k:Int)+1)=k+1:=wrap_i64 (by omega) (by omega);have hroom:roomy (k+1) 32=true:=by simp[roomy];omega
  have ht:(r.lics.take k).length=k:=by simp;omega
  have hm:min k r.lics.length=k:=by omega
  have e:=map_take_succ hxk Lic.V;rw[if_pos (by omega),awp_skip];simp only[cMr13];simp[hxk,Lic.V,mkL,putL];simp only[cMr14];simp[putL,hm,hroom];simp[cMr12,hw,hlt,e,Lic.V]
 ·have:k=r.lics.length:=by omega
  subst this;rw[if_neg (by omega),awp_exit];simp
set_option maxRecDepth 100000 in
theorem pM {n:Nat} (hk:chkF Tryz.prog GLx n 1 (cM a b c) cMR=true) (r:Rgt) (hr:r.ok):PSp Tryz.prog GLx n [r.V] [r.V]:=by
 refine psp_of_awp hk rfl ?_;simp only[cM,awp_seq,awp_reg,awp_block,cMr0,cMr1,entry];simp[Rgt.V,Rgt.cs,putL,cMr2];have q0:=λR1=>l53_0 (a:=a) (b:=b) (c:=c) r hr.ld R1 [] [];have q1:=λR1=>l53_1 (a:=a) (b:=b) (c:=c) r hr.lo R1 r.dates [];have q2:=λR1=>l53_2 (a:=a) (b:=b) (c:=c) r hr.ll R1 r.dates r.owners;simp only[mkL,Rgt.row,List.map_nil]at q0 q1 q2;refine awp_mono _ ?_ (q0 _);rintro e ⟨se,sh⟩ ⟨rfl,f1,f2,f3,hh⟩;simp only at f1 f2 f3 hh;subst hh;simp[cMr6,f1,f2,f3];refine awp_mono _ ?_ (q1 _);rintro e ⟨se,sh⟩ ⟨rfl,f1,f2,f3,hh⟩;simp only at f1 f2 f3 hh;subst hh;simp[cMr10,f1,f2,f3];refine awp_mono _ ?_ (q2 _);rintro e ⟨se,sh⟩ ⟨rfl,f1,f2,f3,J,hh⟩;simp only at f1 f2 f3 hh;subst hh;simp[cMr15,f2,f3,awp_ret,cMR,D.vs?,D.v?,putL,nums]
end
theorem k7:chkF Tryz.prog GLx 7 1 (cM 90 91 92) cMR=true:=by kernel_rfl
theorem p7 (r:Rgt) (hr:r.ok):PSp Tryz.prog GLx 7 [r.V] [r.V]:=pM k7 r hr
theorem p17 (xs:List (Int×Int)) (hn:xs.length≤2^40):PSp Tryz.prog GLx 17 [.list (xs.map clmV)] [.list (xs.map clmV)]:=by
 refine psp_of_awp (Zkk 17) rfl ?_;simp only[Zga 17,awp_seq,awp_reg,awp_block,Zge 17 0,Zge 17 1,Zge 17 2,entry];simp;refine awp_loop_nat0 xs.length (λk=>⟨[(0,.v (.list (xs.map clmV))),(3,.own 102 2 ((xs.take k).map clmV)),(4,.v (.int .i64 k))],[]⟩) (by simp) ?_;intro k hk;simp only[Zgl 17 0,awp_seq,awp_reg,awp_block,awp_cond,Zge 17 3];simp;by_cases h1:k <xs.length
 ·obtain⟨x,hx⟩:∃x,xs[k]?=some x:=⟨_,List.getElem?_eq_getElem h1⟩;have w1:IntKind.i64.wrap ((k:Int)+1)=k+1:=wrap_i64 (by omega) (by omega);have hroom:roomy (min k xs.length+1) 16=true:=by simp[roomy];omega
  have ht:(xs.map clmV).take (k+1)=(xs.map clmV).take k++[clmV x]:=by rw[List.take_add_one,List.getElem?_map,hx];rfl
  rw[ht];simp[h1,awp_skip];simp only[awp_regD,Zge 17 5];simp[hx,clmV,hroom,putL];simp[Zge 17 4,w1]
 ·have hk2:k=xs.length:=by omega
  subst hk2;have ht:(xs.map clmV).take xs.length=xs.map clmV:=List.take_of_length_le (by simp);simp[awp_exit,Zge 17 6,awp_ret,Zgr 17,ht]
open Go.Proofs Go.Shelf
def rnG:Ren:=⟨λ|4=>120|n=>n,λ|22=>62|25=>71|n=>n,λn=>n⟩
def rnI:Ren:=⟨λ|4=>516|n=>n,λ|25=>3|n=>n,λn=>n⟩
theorem layG:Lays8.n4 Tryz.prog rnG where
 mixed:=by kernel_rfl
 f4:=⟨Tryz.f120.name,by kernel_rfl,Tryz.func120.trans (congrArg some (by kernel_rfl))⟩
 t0:=Tryz.underlying0
 a0:=Tryz.isAgg0
 z0:=Tryz.sizeOf0
 v0:=Tryz.zeroValue0
 t3:=Tryz.underlying3
 a3:=Tryz.isAgg3
 z3:=Tryz.sizeOf3
 v3:=Tryz.zeroValue3
 t4:=Tryz.underlying4
 a4:=Tryz.isAgg4
 z4:=Tryz.sizeOf4
 v4:=Tryz.zeroValue4
 t9:=Tryz.underlying9
 a9:=Tryz.isAgg9
 z9:=Tryz.sizeOf9
 v9:=Tryz.zeroValue9
 t20:=Tryz.underlying20
 a20:=Tryz.isAgg20
 z20:=Tryz.sizeOf20
 v20:=Tryz.zeroValue20
 t22:=Tryz.underlying62
 a22:=Tryz.isAgg62
 z22:=Tryz.sizeOf62
 v22:=Tryz.zeroValue62
theorem layI:Lays8.n4 Tryz.prog rnI where
 mixed:=by kernel_rfl
 f4:=⟨Tryz.f516.name,by kernel_rfl,Tryz.func516.trans (congrArg some (by kernel_rfl))⟩
 t0:=Tryz.underlying0
 a0:=Tryz.isAgg0
 z0:=Tryz.sizeOf0
 v0:=Tryz.zeroValue0
 t3:=Tryz.underlying3
 a3:=Tryz.isAgg3
 z3:=Tryz.sizeOf3
 v3:=Tryz.zeroValue3
 t4:=Tryz.underlying4
 a4:=Tryz.isAgg4
 z4:=Tryz.sizeOf4
 v4:=Tryz.zeroValue4
 t9:=Tryz.underlying9
 a9:=Tryz.isAgg9
 z9:=Tryz.sizeOf9
 v9:=Tryz.zeroValue9
 t20:=Tryz.underlying20
 a20:=Tryz.isAgg20
 z20:=Tryz.sizeOf20
 v20:=Tryz.zeroValue20
 t22:=Tryz.underlying22
 a22:=Tryz.isAgg22
 z22:=Tryz.sizeOf22
 v22:=Tryz.zeroValue22
def infoB (e s:Nat):Bool:=match Tryz.prog.info? e with|some i=>(match i.zero with|some z=>i.size==s&&z.cells.size==s&&decide (i.bytes≤64)|none=>false)|none=>false
theorem infoB_ok {e s:Nat} (hk:infoB e s=true):∃i z,Tryz.prog.info? e=some i∧i.zero=some z∧i.size=s∧z.cells.size=s∧i.bytes≤64:=by
 unfold infoB at hk;cases hi:Tryz.prog.info? e with
 |none=>rw[hi]at hk;cases hk
 |some i=>
  rw[hi]at hk;simp only at hk;cases hz:i.zero with
  |none=>rw[hz]at hk;cases hk
  |some z=>
   rw[hz]at hk;simp only[Bool.and_eq_true,beq_iff_eq,decide_eq_true_eq]at hk;exact⟨i,z,rfl,hz,hk.1.1,hk.1.2,hk.2⟩
theorem growG {rn:Ren} (lay:Lays8.n4 Tryz.prog rn) {f e s:Nat} (hf:rn.f 4=f) (he:rn.t 25=e) (hi0:infoB e s=true) (hs:0 <s) (hg:¬NoGrow e) (ht:okF Tryz.prog f=true) (n:Nat) (hn:n≤2^30) (h:List Row):
  FSp Tryz.prog GLx f [.nil e s,.v (.int .i64 n)] h [.own e s []] h:=by
 subst hf;refine⟨ht,λg w μ us O hinv hgl hall htame=>?_⟩;obtain⟨hlen,hget⟩:=hall;obtain⟨u,v,rfl⟩:∃u v,us=[u,v]:=by
  match us,hlen with
  |[u,v],_=>exact⟨u,v,rfl⟩
 have hu:RepE g w μ (.nil e s) u:=hget 0 _ u rfl rfl;have hv:RepV g (.int .i64 n) v:=hget 1 (.v (.int .i64 n)) v rfl rfl;obtain⟨a,rfl,ha⟩:=hu;cases hv;rcases Nat.eq_zero_or_pos n with rfl|hpos
 ·have c:=Any8.slices_Grow_room lay a 0 0 0 w (by omega) (by omega) (by omega) (by omega);refine Calls.mono c ?_;rintro e w' ⟨rfl,rfl⟩;have hc:Chg (λ_=>False) g w' g w':=⟨Gh.le.refl g,Nat.le_refl _,λ_ _ _=>rfl,λ_ _ _ _=>rfl,rfl,rfl⟩;exact⟨_,g,μ,rfl,hinv.newOwn (d:=0) hc hinv.agree (.inl ⟨a,rfl,rfl,ha⟩) (λ_ _=>⟨a,rfl⟩) (by intro b hb;cases a<;>simp[own1]at hb),hc.mono λ_ h=>h.elim,List.prefix_refl _⟩
 ·obtain⟨i0,z,hi0,hz0,hs0,hzc,hby⟩:=infoB_ok hi0;have c:=Any8.slices_Grow_grow lay i0 z (he▸hi0) hz0 (by omega) a 0 0 n [] w (by omega) (by omega) (by
   have:(0+n)*i0.bytes≤2^30*64:=Nat.mul_le_mul (by omega) hby;omega) (by omega) (by simp) (λ_=>rfl) (by simp)
  refine Calls.mono c ?_;rintro e' w' ⟨rfl,rfl⟩;have hG:=grownCap_ge w (0+n) 0 (rn.t 25);generalize grownCap w (0+n) 0 (rn.t 25)=G at hG ⊢;rw[he];have hsz:(#[]++Builtin.zeroCells z.cells (0+n-0)++Builtin.zeroCells z.cells (G-(0+n))).size=G*s:=by
   simp only[Array.size_append,size_zeroCells,hzc,Array.size_empty];rw[Nat.zero_add,←Nat.add_mul]
   congr 1;omega
  have hsz':([].toArray++Builtin.zeroCells z.cells (0+n-0)++Builtin.zeroCells z.cells (G-(0+n))).size=G*s:=hsz;generalize [].toArray++Builtin.zeroCells z.cells (0+n-0)++Builtin.zeroCells z.cells (G-(0+n))=arr at hsz' ⊢;have hold:∀b,b <w.heap.size→∀x,(w.heap.push x)[b]?=w.heap[b]?:=λb hb x=>by rw[Array.getElem?_push,if_neg (by omega)]
  have hagree:∀b o v,g.m b o=some v→b <w.heap.size:=by
   intro b o v hv;have h2:=hinv.agree b o v hv;rcases Nat.lt_or_ge b w.heap.size with h'|h'
   ·exact h'
   ·simp[World.cell?,Array.getElem?_eq_none h']at h2
  have hc:Chg (λ_=>False) g w g (w.drew.alloc (.cells arr e)):=⟨Gh.le.refl g,by show w.heap.size≤(w.heap.push _).size;rw[Array.size_push];omega,λb hb _=>hold b hb _,λ_ _ _ _=>rfl,rfl,rfl⟩;refine⟨_,g,μ,rfl,hinv.newOwn (d:=0) (e:=e) (s:=s) (xs:=[]) hc (λb o v hv=>?_) (.inr ⟨w.heap.size,G,arr,λ_=> .bool false,rfl,by omega,by show (w.heap.push _)[w.heap.size]?=_;rw[Array.getElem?_push,if_pos rfl],by simp,hsz',by simp,by simp,λo _=>?_⟩) (λ_ h=>absurd h hg) ?_,hc.mono λ_ h=>h.elim,List.prefix_refl _⟩
  ·have h1:=hinv.agree b o v hv;have h2:=hold b (hagree b o v hv) (.cells arr e);rw[World.cell?_of_block (a:=⟨b,o,none⟩) h2];exact h1
  ·cases h4:g.m w.heap.size o with
   |none=>rfl
   |some v=>have:=hagree _ _ _ h4;omega
  ·intro b hb;simp only[own1]at hb;split at hb
   ·cases hb
   ·simp only[Option.some.injEq]at hb;rw[←hb];exact Nat.le_refl _
theorem p245 (n:Nat) (hn:n≤2^30) (h:List Row):FSp Tryz.prog GLx 120 [.nil 71 4,.v (.int .i64 n)] h [.own 71 4 []] h:=
 growG layG rfl rfl (by kernel_rfl) (by decide) (λh=>h.1 rfl) (by kernel_rfl) n hn h
theorem p516 (n:Nat) (hn:n≤2^30) (h:List Row):FSp Tryz.prog GLx 516 [.nil 3 1,.v (.int .i64 n)] h [.own 3 1 []] h:=
 growG layI rfl rfl (by kernel_rfl) (by decide) (λh=>h.2 rfl) (by kernel_rfl) n hn h
theorem p140 (L:List (List F)) (hL:L.length≤2^20) (hn:L.flatten.length≤2^30):PSp Tryz.prog GLx 67 [.list (L.map λl=> .list (l.map F.V))] [.list (L.flatten.map F.V)]:=by
 refine psp_of_awp (Zkk 67) rfl ?_;have hh:∀l:List F,headOK 4 (l.map F.V)=true:=by
  intro l;cases l with
  |nil=>rfl
  |cons x xs=>obtain⟨op,n,ins,kids⟩:=x;simp[F.V_eq,V.cells]
 have q:=p245 L.flatten.length hn [];obtain⟨U,hU⟩:∃U:Nat→List F,∀k,U k=(L.take k).flatten:=⟨_,λ_=>rfl⟩;have hU0:U 0=[]:=by rw[hU];rfl
 have hUn:U L.length=L.flatten:=by rw[hU,List.take_length]
 have hUs:∀k l,L[k]?=some l→U (k+1)=U k++l:=by
  intro k l h;rw[hU,hU,List.take_add_one,h];simp
 have hUl:∀k,(U k).length≤L.flatten.length:=by
  intro k;rw[hU];conv=>rhs;rw[←List.take_append_drop k L,List.flatten_append,List.length_append]
  omega
 rw[←hUn]at q hUl ⊢;rw[←hUn]at hn;simp only[Zga 67,awp_seq,awp_reg,awp_block,Zge 67 0,Zge 67 1,Zge 67 2,entry];simp;refine awp_loop_nat0 L.length (λk=>⟨[(0,.v (.list (L.map λl=> .list (l.map F.V)))),(3,.v (.int .i64 (U k).length)),(9,.v (.list (L.map λl=> .list (l.map F.V)))),(10,.v (.int .i64 L.length)),(11,.v (.int .i64 k))],[]⟩) (by simp[hU0]) ?_;intro k hk;simp only[Zgl 67 0,awp_seq,awp_reg,awp_block,awp_cond,Zge 67 3];simp;by_cases h1:k <L.length
 ·obtain⟨l,hl⟩:∃l,L[k]?=some l:=⟨_,List.getElem?_eq_getElem h1⟩;have w1:IntKind.i64.wrap ((k:Int)+1)=k+1:=wrap_i64 (by omega) (by omega);have hle:=hUl (k+1);rw[hUs k l hl,List.length_append]at hle;rw[hUs k l hl,List.length_append];generalize (U k).length=s at*;have w2:IntKind.i64.wrap ((s:Int)+l.length)=s+l.length:=wrap_i64 (by omega) (by omega);have w3:¬((s:Int)+l.length <0):=by omega
  rw[if_pos (by omega),awp_skip];simp only[Zge 67 4,Zge 67 5,Zge 67 6];have hl':L[k]'h1=l:=by have:=List.getElem?_eq_getElem h1;rw[hl]at this;exact(Option.some.inj this).symm
  simp[hl',w2,w3,awp_skip,Zge 67 8,w1,h1]
 ·have hk2:k=L.length:=by omega
  subst hk2;rw[if_neg (by omega),awp_exit];simp only[Zge 67 9];simp;refine⟨_,_,q,?_⟩;simp[Zge 67 10];refine awp_loop_nat0 L.length (λk=>⟨[(6,.own 71 4 ((U k).map F.V)),(25,.v (.list (L.map λl=> .list (l.map F.V)))),(26,.v (.int .i64 L.length)),(27,.v (.int .i64 k))],[]⟩) (by simp[hU0]) ?_;intro k hk;simp only[Zgl 67 1,awp_seq,awp_reg,awp_block,awp_cond,Zge 67 11];simp;by_cases h1:k <L.length
  ·obtain⟨l,hl⟩:∃l,L[k]?=some l:=⟨_,List.getElem?_eq_getElem h1⟩;have w1:IntKind.i64.wrap ((k:Int)+1)=k+1:=wrap_i64 (by omega) (by omega);have hle:=hUl (k+1);rw[hUs k l hl,List.length_append]at hle;rw[hUs k l hl,List.map_append];generalize U k=s at*;have hroom:roomy (s.length+l.length) 64=true:=by simp[roomy];omega
   rw[if_pos (by omega),awp_skip];simp only[Zge 67 12,Zge 67 13];have hl':L[k]'h1=l:=by have:=List.getElem?_eq_getElem h1;rw[hl]at this;exact(Option.some.inj this).symm
   simp[hl',hh,hroom,Zge 67 14,w1,h1]
  ·have hk3:k=L.length:=by omega
   subst hk3;rw[if_neg (by omega),awp_exit];simp[Zge 67 15,awp_ret,Zgr 67]
def slot64 (pre:List V) (g:V) (b:Nat) (d:Nat→Bool):D:=
 if d 7 then (if d 6 then .own 71 4 (pre++[g]) else .pend b 71 4 pre) else if d 0 then .v (.list pre) else .own 71 4 pre
structure I64 (H:List Row) (r6 r8:Nat) (pre:List V) (op n:Int) (ins kids:V) (d:Nat→Bool) (s:St):Prop where
 ex:∃b,s.h=H.set r6 (.cells [slot64 pre (.agg [.int .i64 op,.int .i64 n,ins,kids]) b d])∧(d 4=true→d 7=false→find s.e 26=if d 6 then .own 71 4 (pre++[.agg [.int .i64 op,.int .i64 n,ins,kids]]) else .pend b 71 4 pre)∧
  (d 7=true→d 6=false→find s.e 26= .pptr b 0 pre.length)∧(d 5=true→find s.e 27= .pptr b 4 pre.length)
 e6:find s.e 6= .ref r6 0
 e8:find s.e 8= .ref r8 0
 e23:d 1=true→find s.e 23= .agg [.v (.int .i64 op),.v (.int .i64 n),.v ins,.v kids]
 e22:d 0=true→d 4=false→find s.e 22= .own 71 4 pre
 e24:d 2=true→find s.e 24= .v (.int .i64 pre.length)
 e25:d 3=true→find s.e 25= .own 71 4 [.agg [.int .i64 0,.int .i64 0,.list [],.list []]]
set_option maxRecDepth 100000 in
set_option maxHeartbeats 4000000 in
theorem r64 (H:List Row) (r6 r8:Nat) (hne:r6≠r8) (hl:r6 <H.length) (pre:List V) (hpre:pre.length≤2^20) (op n:Int) (ins kids:V)
  (h6:H[r6]?=some (.cells [.own 71 4 pre])) (h8:H[r8]?=some (.cells [.v (.int .i64 op),.v (.int .i64 n),.v ins,.v kids])) (K:St→Prop)
  (hK:∀e,K ⟨e,H.set r6 (.cells [.own 71 4 (pre++[.agg [.int .i64 op,.int .i64 n,ins,kids]])])⟩) (e:Env) (f6:find e 6= .ref r6 0) (f8:find e 8= .ref r8 0):
  AnyD Tryz.prog GLx c37r4 [[],[],[0],[],[0,1,2,3],[0,1,2,3,4],[0,1,2,3,4,5],[0,1,2,3,4]] K 8 (List.range 8) ⟨e,H⟩:=by
 have hroom:roomy (pre.length+1) 64=true:=by simp[roomy];omega
 refine anyD_all (I64 H r6 r8 pre op n ins kids) ?_ ?_ ?_
 ·rintro d i ⟨se,sh⟩ hi hdi hdep hup ⟨⟨b,hh,e26,e26',e27⟩,e6,e8,e23,e22,e24,e25⟩;simp only at hh e26 e26' e27 e6 e8 e23 e22 e24 e25;subst hh;have hg8:∀X,(H.set r6 X)[r8]?=some (.cells [.v (.int .i64 op),.v (.int .i64 n),.v ins,.v kids]):=λX=>by rw[List.getElem?_set_ne hne];exact h8
  have hg6:∀X,(H.set r6 X)[r6]?=some X:=λX=>List.getElem?_set_self hl;have hcases:i=0∨i=1∨i=2∨i=3∨i=4∨i=5∨i=6∨i=7:=by omega
  rcases hcases with rfl|rfl|rfl|rfl|rfl|rfl|rfl|rfl
  ·have d4:=hup 4 (by decide) (by simp);have d7:=hup 7 (by decide) (by simp);have d5:=hup 5 (by decide) (by simp);simp[awpG,c37r4,e6,hg6,slot64,hdi,d7];refine⟨⟨b,?_,?_,?_,?_⟩,?_,?_,?_,?_,?_,?_⟩<;>simp_all [did,slot64]
  ·simp[awpG,c37r4,e8,hg8];refine⟨⟨b,?_,?_,?_,?_⟩,?_,?_,?_,?_,?_,?_⟩<;>simp_all [did,slot64]
  ·have d0:=hdep 0 (by simp);have d4:=hup 4 (by decide) (by simp);have h22:=e22 d0 d4;simp[awpG,c37r4,h22];refine⟨⟨b,?_,?_,?_,?_⟩,?_,?_,?_,?_,?_,?_⟩<;>simp_all [did,slot64]
  ·have d4:=hup 4 (by decide) (by simp);simp[awpG,c37r4];refine⟨⟨b,?_,?_,?_,?_⟩,?_,?_,?_,?_,?_,?_⟩<;>simp_all [did,slot64]
  ·have d0:=hdep 0 (by simp);have d3:=hdep 3 (by simp);have d5:=hup 5 (by decide) (by simp);have d6:=hup 6 (by decide) (by simp);have d7:=hup 7 (by decide) (by simp);have h22:=e22 d0 hdi;have h25:=e25 d3;simp[awpG,c37r4,h22,h25,ownOf,hroom];intro b';refine⟨⟨b',?_,?_,?_,?_⟩,?_,?_,?_,?_,?_,?_⟩<;>simp_all [did,slot64]
  ·have d4:=hdep 4 (by simp);have d2:=hdep 2 (by simp);have d6:=hup 6 (by decide) (by simp);have h24:=e24 d2;cases d7:d 7 with
   |true=>
    have h26:=e26' d7 d6;simp[awpG,c37r4,h24,h26];refine⟨⟨b,?_,?_,?_,?_⟩,?_,?_,?_,?_,?_,?_⟩<;>simp_all [did,slot64]
   |false=>
    have h26:=e26 d4 d7;rw[d6]at h26;simp at h26;simp[awpG,c37r4,h24,h26];refine⟨⟨b,?_,?_,?_,?_⟩,?_,?_,?_,?_,?_,?_⟩<;>simp_all [did,slot64]
  ·have d4:=hdep 4 (by simp);have d1:=hdep 1 (by simp);have d5:=hdep 5 (by simp);have h23:=e23 d1;have h27:=e27 d5;cases d7:d 7 with
   |true=>
    have h26:=e26' d7 hdi;simp[awpG,c37r4,h23,h26,h27,e6,hg6,slot64,d7,hdi,D.vs?,D.v?,V.cells];refine⟨⟨b,?_,?_,?_,?_⟩,?_,?_,?_,?_,?_,?_⟩<;>simp_all [did,slot64]
   |false=>
    have h26:=e26 d4 d7;rw[hdi]at h26;simp at h26;simp[awpG,c37r4,h23,h26,h27,D.vs?,D.v?,V.cells];refine⟨⟨b,?_,?_,?_,?_⟩,?_,?_,?_,?_,?_,?_⟩<;>simp_all [did,slot64]
  ·have d4:=hdep 4 (by simp);have h26:=e26 d4 hdi;cases d6:d 6 with
   |true=>
    rw[d6]at h26;simp at h26;simp[awpG,c37r4,h26,e6,hg6,slot64,hdi];refine⟨⟨b,?_,?_,?_,?_⟩,?_,?_,?_,?_,?_,?_⟩<;>simp_all [did,slot64]
   |false=>
    rw[d6]at h26;simp at h26;simp[awpG,c37r4,h26,e6,hg6,slot64,hdi];refine⟨⟨b,?_,?_,?_,?_⟩,?_,?_,?_,?_,?_,?_⟩<;>simp_all [did,slot64]
 ·rintro d ⟨se,sh⟩ hd ⟨⟨b,hh,_⟩,_⟩;simp only at hh;subst hh;have h7:=hd 7 (by decide);have h6':=hd 6 (by decide);simp only[slot64,h7,h6',if_true];exact hK se
 ·refine⟨⟨0,?_,?_,?_,?_⟩,f6,f8,?_,?_,?_,?_⟩<;>simp[slot64]
  obtain⟨hl2,hg⟩:=List.getElem?_eq_some_iff.1 h6;rw[←hg];exact(List.set_getElem_self hl2).symm
section
variable (h:List Row) (C B:Row) (e0:Env)
def X64 (h:List Row) (C B:Row) (e0:Env) (own:List V) (t:Tag):List Row:=h++[C,.cells [.own 71 4 own],B,recRow Tryz.prog GLx t e0 [21] (lG 37 0) (lG 37 1000)]
set_option maxRecDepth 100000 in
set_option maxHeartbeats 4000000 in
theorem y64 (h6:find e0 6= .ref (h.length+1) 0) (pre:List F) (hpre:pre.length≤2^20) (g:F) (J:List Row):
  YSp Tryz.prog GLx (h.length+3) [.v g.V] (X64 h C B e0 (pre.map F.V) .ready++J) true (X64 h C B e0 ((pre++[g]).map F.V) .ready++(J++[.cells g.cells])):=by
 refine ysp_of_awp (e0:=e0) (ps:=[21]) (asg:=(lG 37 0)) (body:=(lG 37 1000)) (by simp[X64]) rfl ?_;obtain⟨op,n,ins,kids⟩:=g;have hr:=λ(H:List Row) (r8:Nat) (hne:h.length+1≠r8) (hl:h.length+1 <H.length) (hx:H[h.length+1]?=some (.cells [.own 71 4 (pre.map F.V)])) (h8:H[r8]?=some (.cells [.v (.int .i64 op),.v (.int .i64 n),.v (.list (ins.map Ivl.V)),.v (.list (kids.map F.V))])) K hK e f6 f8=>
  r64 H (h.length+1) r8 hne hl (pre.map F.V) (by simpa using hpre) op n (.list (ins.map Ivl.V)) (.list (kids.map F.V)) hx h8 K hK e f6 f8
 simp only[F.cells,F.op,F.n,F.ins,F.kids,F.V_eq,X64,setPs,Zgl 37 0,Zgl 37 1000,awp_reg,awp_block,Zge 37 3];simp[h6,putL];rw[awp_regV,oG37];refine hr _ (h.length+(J.length+4)) (by omega) (by simp) (by simp) (by simp) _ ?_ _ rfl rfl;intro e;simp[roundEnd,F.V_eq]
end
set_option maxRecDepth 100000 in
theorem l64c (H:List Row) (a:F) (a14:Nat) (h14:H[a14]?=some (.cells a.cells)) (bl res:List F) (hb:∀b∈bl,(mkA a b).ok∧formE (mkA a b)=0) (hlen:res.length+bl.length≤64) (d1 d6 d37 d38 d39 d62 d63 d64:D) (J:List Row) (Q:AExit→St→Prop)
  (hQ:∀J' e,find e 1=d1→find e 6=d6→find e 7= .own 71 4 ((res++bl.map (mkA a)).map F.V)→find e 37=d37→find e 38=d38→find e 39=d39→find e 62=d62→find e 63=d63→find e 64=d64→Q (.exit 6) ⟨e,H++J'⟩):
  awp Tryz.prog GLx (.loop (lG 37 3)) Q ⟨[(1,d1),(6,d6),(7,.own 71 4 (res.map F.V)),(14,.ref a14 0),(37,d37),(38,d38),(39,d39),(62,d62),(63,d63),(64,d64),(68,.v (.list (bl.map F.V))),(69,.v (.int .i64 bl.length)),(70,.v (.int .i64 (0:Nat)))],H++J⟩:=by
 refine awp_loop_I bl.length (λk s=>∃J',s=⟨[(1,d1),(6,d6),(7,.own 71 4 ((res++(bl.take k).map (mkA a)).map F.V)),(14,.ref a14 0),(37,d37),(38,d38),(39,d39),(62,d62),(63,d63),(64,d64),(68,.v (.list (bl.map F.V))),(69,.v (.int .i64 bl.length)),(70,.v (.int .i64 k))],H++J'⟩) ⟨J,by simp⟩ ?_;rintro k s hk ⟨J',rfl⟩;have h14':=λZ=>get_old Z h14;simp only[Zgl 37 3,awp_seq,awp_reg,awp_block,awp_cond,Zge 37 17];by_cases hkl:k <bl.length
 ·obtain⟨b,hbk⟩:∃b,bl[k]?=some b:=⟨_,List.getElem?_eq_getElem hkl⟩;obtain⟨hmok,hmz⟩:=hb b (List.mem_of_getElem? hbk);have w1:IntKind.i64.wrap ((k:Int)+1)=k+1:=wrap_i64 (by omega) (by omega);have htk:bl.take (k+1)=bl.take k++[b]:=by rw[List.take_add_one,hbk];rfl
  have q1:=p141 a;have q2:=p141 b;have q3:=p140 [partsF a,partsF b] (by simp) (by
   have hsz:(mkA a b).size≤1000:=by
    unfold formE at hmz;split at hmz
    ·cases hmz
    ·omega
   unfold mkA at hsz;rw[F.size_eq]at hsz;have:=F.kids_len (partsF a++partsF b);simp at this ⊢;simp at hsz;omega)
  have q4:=(p66 (mkA a b) hmok).fsp;rw[hmz]at q4;rw[htk];have hrl:((bl.take k).map (mkA a)).length≤k:=by rw[List.length_map,List.length_take];omega
  rw[List.map_append (f:=mkA a)];generalize (bl.take k).map (mkA a)=R at*;have hroom:roomy (res.length+R.length+1) 64=true:=by simp[roomy];omega
  simp only[mkA]at q4;simp only[List.map_cons,List.map_nil,mkA];have hfl:[partsF a,partsF b].flatten=partsF a++partsF b:=by simp
  rw[hfl]at q3;generalize partsF a=pa at*;generalize partsF b=pb at*;obtain⟨ao,an,ai,ak⟩:=a;obtain⟨bo,bn,bi,bk⟩:=b;simp only[F.V_eq,F.cells,F.op,F.n,F.ins,F.kids]at*;simp at q3 q4 h14';simp;rw[if_pos (by omega),awp_skip];simp only[Zge 37 18];simp[hbk,F.V_eq,putL];simp only[awp_regD,Zge 37 19];simp[h14'];refine⟨_,_,⟨rfl,rfl⟩,_,q1,?_⟩;simp;refine⟨_,_,⟨rfl,rfl⟩,_,q2,?_⟩;simp;refine⟨_,_,⟨rfl,rfl⟩,_,q3,?_⟩;simp[putL];simp only[Zge 37 20];simp;refine⟨_,_,q4 _,?_⟩;simp[awp_skip,Zge 37 22,hroom,Zge 37 23,w1,hkl]
 ·have hk2:k=bl.length:=by omega
  subst hk2;simp;rw[awp_exit];refine hQ _ _ ?_ ?_ ?_ ?_ ?_ ?_ ?_ ?_ ?_<;>simp
set_option maxRecDepth 100000 in
theorem l64b (H:List Row) (r6:Nat) (al bl res:List F) (h6:H[r6]?=some (.cells [.own 71 4 (bl.map F.V)])) (hb:∀a∈al,∀b∈bl,(mkA a b).ok∧formE (mkA a b)=0) (hlen:res.length+al.length*bl.length≤64) (haln:al.length≤2^20) (d1 d37 d38 d39:D) (J:List Row) (Q:AExit→St→Prop)
  (hQ:∀J' e,find e 1=d1→find e 6= .ref r6 0→find e 7= .own 71 4 ((res++al.flatMap λa=>bl.map (mkA a)).map F.V)→find e 37=d37→find e 38=d38→find e 39=d39→Q (.exit 4) ⟨e,H++J'⟩):
  awp Tryz.prog GLx (.loop (lG 37 2)) Q ⟨[(1,d1),(6,.ref r6 0),(7,.own 71 4 (res.map F.V)),(37,d37),(38,d38),(39,d39),(62,.v (.list (al.map F.V))),(63,.v (.int .i64 al.length)),(64,.v (.int .i64 (0:Nat)))],H++J⟩:=by
 obtain⟨U,hU⟩:∃U:Nat→List F,∀k,U k=res++(al.take k).flatMap λa=>bl.map (mkA a):=⟨_,λ_=>rfl⟩;have hU0:U 0=res:=by rw[hU];simp
 have hUn:U al.length=res++al.flatMap λa=>bl.map (mkA a):=by rw[hU,List.take_length]
 have hUs:∀k a,al[k]?=some a→U (k+1)=U k++bl.map (mkA a):=by
  intro k a h;rw[hU,hU,List.take_add_one,h];simp
 have hUl:∀k,k≤al.length→(U k).length=res.length+k*bl.length:=by
  intro k hk;have:∀l:List F,(l.flatMap λa=>bl.map (mkA a)).length=l.length*bl.length:=by
   intro l;induction l with
   |nil=>simp
   |cons x l ih=>rw[List.flatMap_cons,List.length_append,ih,List.length_map,List.length_cons,Nat.succ_mul];omega
  rw[hU,List.length_append,this,List.length_take,Nat.min_eq_left hk]
 rw[←hUn]at hQ;refine awp_loop_I al.length (λk s=>∃J',s.h=H++J'∧find s.e 1=d1∧find s.e 6= .ref r6 0∧find s.e 7= .own 71 4 ((U k).map F.V)∧find s.e 37=d37∧find s.e 38=d38∧find s.e 39=d39∧find s.e 62= .v (.list (al.map F.V))∧find s.e 63= .v (.int .i64 al.length)∧find s.e 64= .v (.int .i64 k)) ⟨J,rfl,rfl,rfl,by simp[hU0],rfl,rfl,rfl,rfl,rfl,rfl⟩ ?_;rintro k ⟨se,sh⟩ hk ⟨J',rfl,f1,f6,f7,f37,f38,f39,f62,f63,f64⟩;simp only at f1 f6 f7 f37 f38 f39 f62 f63 f64;have h6':=λZ=>get_old Z h6;simp only[Zgl 37 2,awp_seq,awp_reg,awp_block,awp_cond,Zge 37 14];simp[f1,f6,f7,f37,f38,f39,f62,f63,f64];by_cases hkl:k <al.length
 ·obtain⟨a,hak⟩:∃a,al[k]?=some a:=⟨_,List.getElem?_eq_getElem hkl⟩;have w1:IntKind.i64.wrap ((k:Int)+1)=k+1:=wrap_i64 (by omega) (by omega);have hrl:=hUl k (by omega);have hm:(k+1)*bl.length≤al.length*bl.length:=Nat.mul_le_mul_right _ hkl;rw[Nat.succ_mul]at hm;have hc:=λH2 a14 h14 d6 d62 d63 d64 J Q=>l64c H2 a a14 h14 bl (U k) (hb a (List.mem_of_getElem? hak)) (by rw[hrl];omega) d1 d6 d37 d38 d39 d62 d63 d64 J Q;rw[hUs k a hak];generalize U k=R at*;have hc2:=hc (H++J'++[.cells a.cells]) (H.length+J'.length) (by
   simp) (.ref r6 0) (.v (.list (al.map F.V))) (.v (.int .i64 al.length)) (.v (.int .i64 k)) []
  obtain⟨ao,an,ai,ak⟩:=a;simp only[F.cells,F.op,F.n,F.ins,F.kids]at*;rw[if_pos (by omega),awp_skip];simp only[Zge 37 15];simp[hak,F.V_eq,putL];simp only[Zge 37 16];simp[h6'];simp at hc2;refine hc2 _ ?_;intro J2 e g1 g6 g7 g37 g38 g39 g62 g63 g64;simp[Zge 37 24,g1,g6,g7,g37,g38,g39,g62,g63,g64,w1,hkl]
 ·have hk2:k=al.length:=by omega
  subst hk2;rw[if_neg (by omega),awp_exit];refine hQ _ _ ?_ ?_ ?_ ?_ ?_ ?_<;>simp
theorem okC_A (k:Int):okC 6 (pieceA k)=true:=by
 have h:=Int.tmod_lt_of_pos (IntKind.i64.wrap (k.tdiv 8)) (b:=6) (by decide);simp only[okC,pieceA,F.op,F.n,decide_true,Bool.true_and,Bool.not_eq_true'];exact decide_eq_false (Int.not_le.2 h)
theorem okC_op {f:F} (h:f.op≠1):okC 6 f=true:=by simp[okC,h]
structure P3 (f:F):Prop where
 sz:f.size≤3
 dp:f.depth≤2
 cl:∀g∈f.nodes,okC 6 g=true
 op:f.op≠5
theorem pieceF_P3 (n:Int):P3 (pieceF n):=by
 unfold pieceF;generalize aroundI n 1048576=k;have hC:okC 6 (pieceC k)=true:=okC_op (by simp[pieceC,F.op]);have hA:=okC_A k;have nA:(pieceA k).nodes=[pieceA k]:=by unfold pieceA;rw[F.nodes_eq];simp
 have nC:(pieceC k).nodes=[pieceC k]:=by unfold pieceC;rw[F.nodes_eq];simp
 have sA:(pieceA k).size=1:=by unfold pieceA;rw[F.size_eq];simp
 have sC:(pieceC k).size=1:=by unfold pieceC;rw[F.size_eq];simp
 have dA:(pieceA k).depth=1:=by simp[pieceA,F.depth,F.depths]
 have dC:(pieceC k).depth=1:=by simp[pieceC,F.depth,F.depths]
 simp only
 repeat' split
 ·exact⟨by omega,by omega,by rw[nA];simpa using hA,by simp[pieceA,F.op]⟩
 ·exact⟨by omega,by omega,by rw[nC];simpa using hC,by simp[pieceC,F.op]⟩
 ·refine⟨by rw[F.size_eq];simp[sA,sC],by simp[F.depth,F.depths,dA,dC],?_,by simp[F.op]⟩;rw[F.nodes_eq];simp only[List.flatMap_cons,List.flatMap_nil,nA,nC];intro g hg;simp at hg;rcases hg with rfl|rfl|rfl
  ·exact okC_op (by simp[F.op])
  ·exact hC
  ·exact hA
 ·refine⟨by rw[F.size_eq];simp[sA],by simp[F.depth,F.depths,dA],?_,by simp[F.op]⟩;rw[F.nodes_eq];simp only[List.flatMap_cons,List.flatMap_nil,nA];intro g hg;simp at hg;rcases hg with rfl|rfl
  ·exact okC_op (by simp[F.op])
  ·exact hA
 ·refine⟨by rw[F.size_eq];simp[sA],by simp[F.depth,F.depths,dA],?_,by simp[F.op]⟩;rw[F.nodes_eq];simp only[List.flatMap_cons,List.flatMap_nil,nA];intro g hg;simp at hg;rcases hg with rfl|rfl
  ·exact okC_op (by simp[F.op])
  ·exact hA
theorem P3.tops {f:F} (h:P3 f):f.tops=[f]:=by
 have h5:=h.op;obtain⟨o,n,i,k⟩:=f;rw[F.tops_eq,if_neg (show ¬o=5 from h5)]
theorem P3.fp {f:F} (h:P3 f) (ho:∀g∈f.nodes,g.ok1) (hf:∀g∈f.nodes,formedF g=true):FP 3 2 f:=⟨λg hg=>⟨ho g hg,hf g hg,h.cl g hg⟩,h.sz,h.dp⟩
theorem formE_nodes {f:F} (h:formE f=0):∀g∈f.nodes,formedF g=true:=by
 unfold formE at h;split at h
 ·cases h
 ·split at h
  ·rename_i hall;exact List.all_eq_true.1 hall
  ·cases h
theorem claimF_CP (l:List Int) (i:Nat) (hi:i≤3) (hz:formE (claimF l i).body=0):CP (claimF l i):=by
 have ht:=claimF_tiny l i hi;have hn:=formE_nodes hz;have ho:=λg hg=>(ht.body.one g hg).1;refine⟨ht.lr,?_,?_,?_⟩
 all_goals
  revert hn ho
  unfold claimF;generalize pickI l (2*i+1) 1000=k;generalize pickI l (2*i+2) 1048576=m;simp only;have p1:=pieceF_P3 m;have p2:=pieceF_P3 (IntKind.i64.wrap (k.tdiv 4));generalize pieceF m=a at*;generalize pieceF (IntKind.i64.wrap (k.tdiv 4))=b at*;split
  all_goals intro hn ho
 ·have ha:FP 3 2 a:=p1.fp (λg hg=>ho g (by rw[F.nodes_eq];simp[hg])) (λg hg=>hn g (by rw[F.nodes_eq];simp[hg]));have hb:FP 3 2 b:=p2.fp (λg hg=>ho g (by rw[F.nodes_eq];simp[hg])) (λg hg=>hn g (by rw[F.nodes_eq];simp[hg]));exact FP.node (s:=6) (.inr rfl) (kids:=[a,b]) (by
   intro x hx;simp at hx;rcases hx with rfl|rfl
   ·exact ha
   ·exact hb) (by have:=p1.sz;have:=p2.sz;simp;omega)
 ·exact(p1.fp ho hn).mono (by decide) (by decide)
 ·rw[F.tops_eq,if_pos rfl];simp[p1.tops,p2.tops]
 ·rw[p1.tops];simp
 ·rw[F.tops_eq,if_pos rfl];simp only[List.flatMap_cons,List.flatMap_nil,p1.tops,p2.tops];intro x hx;simp at hx;rcases hx with rfl|rfl
  ·exact p1.fp (λg hg=>ho g (by rw[F.nodes_eq];simp[hg])) (λg hg=>hn g (by rw[F.nodes_eq];simp[hg]))
  ·exact p2.fp (λg hg=>ho g (by rw[F.nodes_eq];simp[hg])) (λg hg=>hn g (by rw[F.nodes_eq];simp[hg]))
 ·rw[p1.tops];intro x hx;simp at hx;subst hx;exact p1.fp ho hn
theorem clmsE_at {T:List Clm} (hz:clmsE T=0) {k:Nat} {c:Clm} (hk:T[k]?=some c):refsOK c.refs k=true∧formE c.body=0:=by
 unfold clmsE at hz;split at hz
 ·cases hz
 ·have hlt:=(List.getElem?_eq_some_iff.1 hk).1;have h:=firstE_all _ _ hz k (by omega) (by omega);unfold clmAt at h;rw[hk]at h;simp only[clmE]at h;split at h
  ·cases h
  ·split at h
   ·rename_i h2;exact⟨h2,h⟩
   ·cases h
theorem refs_low {l:List Int} {i:Int} (h:refsOK l i=true):∀r∈l,0≤r∧r <i:=by
 have hall:∀k <l.length,lastOf l k <l.getD k 0∧l.getD k 0 <i:=by
  intro k hk;unfold refsOK at h;simp only[Bool.not_eq_true',List.any_eq_false,List.mem_range]at h;have:=h k hk;simp only[badRef,decide_eq_true_eq,not_or,Int.not_le]at this;exact this
 have hpos:∀k <l.length,0≤l.getD k 0:=by
  intro k;induction k with
  |zero=>intro hk;have:=(hall 0 hk).1;simp only[lastOf]at this;omega
  |succ k ih=>intro hk;have h1:=(hall (k+1) hk).1;have h2:=ih (by omega);simp only[lastOf]at h1;omega
 intro r hr;obtain⟨k,hk,rfl⟩:=List.getElem_of_mem hr;have h1:=hpos k hk;have h2:=(hall k hk).2;have e:l.getD k 0=l[k]:=by simp[List.getD,hk]
 rw[e]at h1 h2;exact⟨h1,h2⟩
structure CsP (T:List Clm):Prop where
 n:T.length≤3
 cp:∀c∈T,CP c
 low:∀(k:Nat) (c:Clm),T[k]?=some c→∀r∈c.refs,0≤r∧r <(k:Int)
 z:clmsE T=0
 tiny:∀c∈T,c.tiny
theorem claimsF_CsP (l:List Int) (hz:clmsE (claimsF l)=0):CsP (claimsF l):=by
 have hn:=manyC_le l;have hlen:(claimsF l).length=manyC l:=by unfold claimsF;simp
 have hat:∀(k:Nat) (c:Clm),(claimsF l)[k]?=some c→k <manyC l∧c=claimF l k:=by
  intro k c h;have hk:=(List.getElem?_eq_some_iff.1 h).1;rw[hlen]at hk;unfold claimsF at h;rw[List.getElem?_map,List.getElem?_range hk]at h;simp only[Option.map_some,Option.some.injEq]at h;exact⟨hk,h.symm⟩
 refine⟨by omega,?_,λk c h=>refs_low (clmsE_at hz h).1,hz,?_⟩
 ·intro c hc;obtain⟨k,hk⟩:=List.mem_iff_getElem?.1 hc;obtain⟨h1,rfl⟩:=hat k c hk;exact claimF_CP l k (by omega) (clmsE_at hz hk).2
 ·intro c hc;obtain⟨k,hk⟩:=List.mem_iff_getElem?.1 hc;obtain⟨h1,rfl⟩:=hat k c hk;exact claimF_tiny l k (by omega)
theorem CsP.mean {T:List Clm} (h:CsP T):MeanOK T where
 len:=by have:=h.n;omega
 ok:=λc hc=>(h.tiny c hc).ok
 refs:=λc hc=>by have:=(h.cp c hc).lr;omega
 low:=h.low
 mean:=λf hf=>by have:=meanL_all T h.n h.cp h.low f hf;exact⟨this.1,this.2.1⟩
theorem CsP.fine {r:Rgt} (h:CsP r.claims) (hb:r.bad.length≤2^40):r.fine 6:=⟨hb,h.mean,h.z,λf hf=>(meanL_all r.claims h.n h.cp h.low f hf).2.2⟩
theorem CsP.alts {T:List Clm} (h:CsP T) (k:Nat) (hk:k <T.length):FsOK 6 (altAt T k):=altAt_ok T h.n h.cp h.low k hk
theorem list_same {α:Type} {a b:List α} (hl:a.length=b.length) (h:∀j <b.length,a[j]?=b[j]?):a=b:=by
 apply List.ext_getElem?;intro j;by_cases hj:j <b.length
 ·exact h j hj
 ·rw[List.getElem?_eq_none (by omega),List.getElem?_eq_none (by omega)]
theorem p80g (a b:List (Int×Int)) (hl:a.length≤2^40):PSp Tryz.prog GLx 16 [.list (a.map clmV),.list (b.map clmV)] [.bool (decide (a=b))]:=by
 refine psp_of_awp (Zkk 16) rfl ?_;simp only[Zga 16,awp_seq,awp_reg,awp_block,awp_cond,Zge 16 0,Zge 16 1,entry];simp;by_cases hab:a.length=b.length
 ·simp[hab,awp_skip,Zge 16 3];refine awp_loop_I b.length (λk s=>s=⟨[(0,.v (.list (a.map clmV))),(1,.v (.list (b.map clmV))),(5,.v (.int .i64 k))],[]⟩∧∀j <k,a[j]?=b[j]?) ⟨by simp,by omega⟩ ?_;rintro k s hk ⟨rfl,hI⟩;simp only[Zgl 16 0,awp_seq,awp_reg,awp_block,awp_cond,Zge 16 4];simp[hab];by_cases hkl:k <b.length
  ·obtain⟨x,hx⟩:∃x,a[k]?=some x:=⟨_,List.getElem?_eq_getElem (by omega)⟩;obtain⟨y,hy⟩:∃y,b[k]?=some y:=⟨_,List.getElem?_eq_getElem hkl⟩;have w1:IntKind.i64.wrap ((k:Int)+1)=k+1:=wrap_i64 (by omega) (by omega);obtain⟨x1,x2⟩:=x;obtain⟨y1,y2⟩:=y;simp[hkl,awp_skip];simp only[awp_regD,Zge 16 6];simp[hx,hy,clmV,V.eqL,V.eq1];by_cases e1:x1=y1
   ·by_cases e2:x2=y2
    ·subst e1;subst e2;simp[Zge 16 5,w1];intro j hj;by_cases hj2:j <k
     ·exact hI j hj2
     ·have:j=k:=by omega
      subst this;rw[hx,hy]
    ·have hne:a≠b:=by
      intro h;subst h;rw[hx]at hy;simp at hy;exact e2 hy.2
     simp[e1,e2,hne,Zge 16 7,awp_ret,Zgr 16]
   ·have hne:a≠b:=by
     intro h;subst h;rw[hx]at hy;simp at hy;exact e1 hy.1
    simp[e1,hne,Zge 16 7,awp_ret,Zgr 16]
  ·have hk2:k=b.length:=by omega
   subst hk2;simp[awp_exit];simp[Zge 16 8,awp_ret,Zgr 16,list_same hab hI]
 ·have hne:a≠b:=λh=>hab (by rw[h]);have hab':¬(a.length:Int)=b.length:=by omega
  simp[hab',hne,Zge 16 2,awp_ret,Zgr 16]
theorem p82g (a b:List Int) (hl:a.length≤2^40):PSp Tryz.prog GLx 8 [nums .i64 a,nums .i64 b] [.bool (decide (a=b))]:=by
 refine psp_of_awp (Zkk 8) rfl ?_;simp only[Zga 8,awp_seq,awp_reg,awp_block,awp_cond,Zge 8 0,Zge 8 1,entry,nums];simp;by_cases hab:a.length=b.length
 ·simp[hab,awp_skip,Zge 8 3];refine awp_loop_I b.length (λk s=>s=⟨[(0,.v (.list (a.map (.int .i64)))),(1,.v (.list (b.map (.int .i64)))),(5,.v (.int .i64 k))],[]⟩∧∀j <k,a[j]?=b[j]?) ⟨by simp,by omega⟩ ?_;rintro k s hk ⟨rfl,hI⟩;simp only[Zgl 8 0,awp_seq,awp_reg,awp_block,awp_cond,Zge 8 4];simp[hab];by_cases hkl:k <b.length
  ·obtain⟨x,hx⟩:∃x,a[k]?=some x:=⟨_,List.getElem?_eq_getElem (by omega)⟩;obtain⟨y,hy⟩:∃y,b[k]?=some y:=⟨_,List.getElem?_eq_getElem hkl⟩;have w1:IntKind.i64.wrap ((k:Int)+1)=k+1:=wrap_i64 (by omega) (by omega);simp[hkl,awp_skip];simp only[awp_regD,Zge 8 6];simp[hx,hy];by_cases e1:x=y
   ·subst e1;simp[Zge 8 5,w1];intro j hj;by_cases hj2:j <k
    ·exact hI j hj2
    ·have:j=k:=by omega
     subst this;rw[hx,hy]
   ·have hne:a≠b:=by
     intro h;subst h;rw[hx]at hy;simp at hy;exact e1 hy
    simp[e1,hne,Zge 8 7,awp_ret,Zgr 8]
  ·have hk2:k=b.length:=by omega
   subst hk2;simp[awp_exit];simp[Zge 8 8,awp_ret,Zgr 8,list_same hab hI]
 ·have hne:a≠b:=λh=>hab (by rw[h]);have hab':¬(a.length:Int)=b.length:=by omega
  simp[hab',hne,Zge 8 2,awp_ret,Zgr 8]
def leafI (k:Int) (v:List Int):Int:=sumI [112,97,105,114] [k,v.length,IntKind.i64.wrap (hashI [118,97,108,117,101] v)]
theorem Row.low_mono {n m:Nat} (h:n≤m) {row:Row} (hr:Row.low n row=true):Row.low m row=true:=by
 cases row with
 |cells ds=>
  simp only[Row.low]at hr ⊢;exact lts_all λd hd=>by
   obtain⟨i,hi⟩:=List.getElem?_of_mem hd;exact dlt_mono h d (lts_get hr hi)
 |_=>exact hr
structure PFm (h:List Row) (q:Nat) (m:HM) (c x:Nat) (w j n:Int) (H:List Row):Prop where
 pre:H.take h.length=h.set q m.row
 hc:H[c]?=some (.cells [.v (.int .u64 w),.v (.bool true)])
 hx:H[x]?=some (.cells [.v (.int .i64 j),.v (.int .i64 n)])
 lc:h.length≤c
 lx:h.length≤x
 ne:c≠x
 low:∀row∈H.drop h.length,Row.low 0 row=true
section
variable {h:List Row} {q:Nat} {m:HM} {c x:Nat} {w j n:Int} {H:List Row}
theorem PFm.len (hF:PFm h q m c x w j n H):h.length≤H.length:=Nat.le_of_lt (Nat.lt_of_le_of_lt hF.lc (lt_of_get hF.hc))
theorem PFm.get (hF:PFm h q m c x w j n H) {i:Nat} (hi:i <h.length):H[i]?=(h.set q m.row)[i]?:=by
 rw[←hF.pre,List.getElem?_take,if_pos hi]
theorem PFm.app (hF:PFm h q m c x w j n H) {row:Row} (hl:Row.low 0 row=true):PFm h q m c x w j n (H++[row]) where
 pre:=by rw[List.take_append_of_le_length hF.len];exact hF.pre
 hc:=get_old _ hF.hc
 hx:=get_old _ hF.hx
 lc:=hF.lc
 lx:=hF.lx
 ne:=hF.ne
 low:=by
  rw[List.drop_append_of_le_length hF.len];intro row hr;rcases List.mem_append.1 hr with hr|hr
  ·exact hF.low row hr
  ·simp at hr;subst hr;exact hl
theorem PFm.all (hF:PFm h q m c x w j n H) (hl:∀row∈h,Row.low h.length row=true):∀row∈H,Row.low H.length row=true:=by
 intro row hr;rw[←List.take_append_drop h.length H]at hr;rcases List.mem_append.1 hr with hr|hr
 ·rw[hF.pre]at hr;rcases List.mem_or_eq_of_mem_set hr with hr|rfl
  ·exact Row.low_mono hF.len (hl row hr)
  ·rfl
 ·exact Row.low_mono (Nat.zero_le _) (hF.low row hr)
end
structure KM where
 E:List (Int×List Int)
 st:List Nat
 ck:Nat
def entK (x:Int×List Int):V×V:=(.int .i64 x.1,nums .u8 x.2)
def KM.row (m:KM):Row:= .map (m.E.map entK) m.st m.ck
def KM.set (m:KM) (k:Int) (v:List Int):KM:=
 match m.E.findIdx? λx=>x.1==k with
 |none=>⟨m.E++[(k,v)],m.st++[m.ck],m.ck+1⟩
 |some i=>⟨m.E.set i (k,v),m.st,m.ck⟩
def kmL (l:List Rgt):KM:=l.foldl (λK r=>K.set r.file (encR r)) ⟨[],[],0⟩
def hmL (l:List Rgt):HM:=l.foldl (λm r=>putF 12 0 r.file (leafI r.file (encR r)) m) ⟨[],[],0⟩
theorem kmL_snoc (l:List Rgt) (r:Rgt):kmL (l++[r])=(kmL l).set r.file (encR r):=by simp[kmL]
theorem hmL_snoc (l:List Rgt) (r:Rgt):hmL (l++[r])=putF 12 0 r.file (leafI r.file (encR r)) (hmL l):=by simp[hmL]
def rowsN (d:D) (n:Nat) (l:List Rgt):List Row:=[(kmL l).row,(kmL l).row,(hmL l).row,.cells [.mref (n+1),.mref (n+2)],.cells [d,.mref n,.ref (n+3) 0]]
def PN (h:List Row) (d:D) (l:List Rgt) (H:List Row):Prop:=∃J,H=h++(rowsN d h.length l++J)∧∀row∈J,∀n,row.low n=true
theorem rgt_low (r:Rgt) (n:Nat):r.row.low n=true:=by simp[Rgt.row,Row.low,D.lts,D.lt]
theorem PN.low {h H:List Row} {d:D} {l:List Rgt} (hp:PN h d l H) (hd:D.lt h.length d=true) (hl:∀row∈h,row.low h.length=true):∀row∈H,row.low H.length=true:=by
 obtain⟨J,rfl,hJ⟩:=hp;have hlen:h.length+5≤(h++(rowsN d h.length l++J)).length:=by simp[rowsN]
 intro row hrow;rcases List.mem_append.1 hrow with hrow|hrow
 ·exact Row.low_mono (by omega) (hl row hrow)
 rcases List.mem_append.1 hrow with hrow|hrow
 ·refine Row.low_mono hlen ?_;simp only[rowsN,List.mem_cons,List.not_mem_nil,or_false]at hrow;rcases hrow with rfl|rfl|rfl|rfl|rfl
  ·rfl
  ·rfl
  ·rfl
  ·simp[Row.low,D.lts,D.lt]
  ·simp[Row.low,D.lts,D.lt];exact dlt_mono (by omega) d hd
 ·exact hJ row hrow _
theorem PN.get {h H:List Row} {d:D} {l:List Rgt} (hp:PN h d l H):H[h.length]?=some (kmL l).row∧H[h.length+1]?=some (kmL l).row∧H[h.length+2]?=some (hmL l).row∧
  H[h.length+3]?=some (.cells [.mref (h.length+1),.mref (h.length+2)])∧H[h.length+4]?=some (.cells [d,.mref h.length,.ref (h.length+3) 0]):=by
 obtain⟨J,rfl,hJ⟩:=hp;simp[rowsN]
theorem PN.app {h H:List Row} {d:D} {l:List Rgt} (hp:PN h d l H) (r:Rgt):PN h d l (H++[r.row]):=by
 obtain⟨J,rfl,hJ⟩:=hp;refine⟨J++[r.row],by simp,λrow hrow n=>?_⟩;rcases List.mem_append.1 hrow with hrow|hrow
 ·exact hJ row hrow n
 ·simp only[List.mem_singleton]at hrow;subst hrow;exact rgt_low r n
theorem PN.set {h H:List Row} {d:D} {l:List Rgt} (hp:PN h d l H) (r:Rgt):
  PN h d (l++[r]) (((H.set (h.length+1) ((kmL l).set r.file (encR r)).row).set (h.length+2) (putF 12 0 r.file (leafI r.file (encR r)) (hmL l)).row).set h.length ((kmL l).set r.file (encR r)).row):=by
 obtain⟨J,rfl,hJ⟩:=hp;refine⟨J,?_,hJ⟩;have e:∀(i:Nat) (x:Row) (t:List Row),(h++t).set (h.length+i) x=h++t.set i x:=by
  intro i x t;rw[List.set_append_right _ _ (by omega),Nat.add_sub_cancel_left]
 have e0:=λx t=>e 0 x t;simp only[Nat.add_zero]at e0;rw[e,e,e0];simp[rowsN,kmL_snoc,hmL_snoc]
open Go.Proofs
abbrev lo (f k:Nat) {x:(Nat→Int)→(Nat→Int)→List GI} (_h:(λI J=>genFO PG GLx hints f I J k)=x:=by conv=>lhs;reduce):List GI:=x (λn=> @OfNat.ofNat Int n _) (λn=> -@OfNat.ofNat Int n _)
def tbI:TL:=[te 26,te 100,te 136]
theorem tbI_ok:tbI.all ck=true:=by kernel_rfl
def TbI (f:Nat):Option (Nat×AC×List AR):=lookT tbI f
theorem p311:∀a b:Int,0≤a→a <6→0≤b→b <6→PSp Tryz.prog GLx 100 [.list (par6.map (nums .i64)),.int .i64 a,.int .i64 b] [.bool (isTx 6 (fillN 6 zb) a b)]:=by
 intro a b h1 h2 h3 h4;have ha:a=0∨a=1∨a=2∨a=3∨a=4∨a=5:=by omega
 have hb:b=0∨b=1∨b=2∨b=3∨b=4∨b=5:=by omega
 rcases ha with rfl|rfl|rfl|rfl|rfl|rfl<;>rcases hb with rfl|rfl|rfl|rfl|rfl|rfl
 all_goals exact psp_of_ev (T:=TbI) (Pr:=Pr0) (fuel:=200) (λf n ac rs h=>lookT_ok tbI_ok f n ac rs h) (λf args h x hx=>by cases hx) (by kernel_rfl)
end Go.Va
