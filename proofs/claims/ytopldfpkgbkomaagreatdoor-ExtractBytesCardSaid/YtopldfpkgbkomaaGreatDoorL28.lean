/- Laws that ExtractBytes leans on, part 28. No condition of its own. -/
import Derived.Test.YtopldfpkgbkomaaGreatDoorL25
set_option linter.all false
set_option maxRecDepth 100000
set_option maxHeartbeats 4000000
noncomputable section
namespace Go.Va
open Go.Proofs
open Go.Proofs
section
def mkA (a b:F):F:= .mk 4 0 [] (CJ a++CJ b)
def HL (acc:List (List F)) (c:Clm):List F:=if c.refs=[] then c.body.tops else c.refs.flatMap λr=>((acc[r.toNat]?).getD []).flatMap λa=>c.body.tops.map λb=>mkA a b
def Dk (l:List Clm):List (List F):=l.foldl (λacc c=>acc++[HL acc c]) []
def C4 (l:List Clm) (i:Int):List F:=((Dk l)[i.toNat]?).getD []
def cG (nc:Int) (al:List F):Prop:=al.length≤64∧∀f∈al,f.ok∧Bt f=0∧f.nodes.all (Jx nc)=true
variable {nc:Int}
theorem nk {al:List F} (h:cG nc al) {f:F} (hf:f∈al) {t:Th} (ht:F5 t=0) (hk:t.kinds nc=true):Lr nc f t=0:=by
 obtain⟨_,h2,h3⟩:=h.2 f hf;unfold Lr;rw[h2,ht,h3,hk];rfl
def VQ (r:Rgt) (i j day:Int):Bool:=r.dates.any λd=>((d.cl==i)&&(d.ix==j))&&decide (d.day <day)
def ME (I:Int→Int→Bool) (t:Th) (r:Rgt) (i day:Int):Nat→List F→Bool
 |_,[]=>false
 |k,a::al=>(a.hold I t&&VQ r i k day)||ME I t r i day (k+1) al
def bq (I:Int→Int→Bool) (t:Th) (r:Rgt) (i day:Int):Bool:=ME I t r i day 0 (C4 r.claims i)
theorem QC (I:Int→Int→Bool) (t:Th) (r:Rgt) (i day:Int) (b:F):∀(al:List F) (k:Nat),ME I t r i day k (al++[b])=(ME I t r i day k al||(b.hold I t&&VQ r i ((k+al.length:Nat):Int) day))
 |[],k=>by simp[ME]
 |a::al,k=>by
  simp only[rz,ME,QC I t r i day b al (k+1),qT];rw[show k+1+al.length=k+(al.length+1) by omega,Bool.or_assoc]
end
section
variable {P:Program} {GL:Ac}
end
def ZT (pre:List V) (g:V) (b:Nat) (d:Nat→Bool):D:=
 if d 7 then (if d 6 then .own 84 4 (pre++[g]) else .pend b 84 4 pre) else if d 0 then .v (.list pre) else .own 84 4 pre
structure I64 (H:List Row) (r6 r8:Nat) (pre:List V) (op n:Int) (ins kids:V) (d:Nat→Bool) (s:St):Prop where
 ex:∃b,s.h=H.set r6 (.cells [ZT pre (.agg [.int .i64 op,.int .i64 n,ins,kids]) b d])∧(d 4=true→d 7=false→AF s.e 26=if d 6 then .own 84 4 (pre++[.agg [.int .i64 op,.int .i64 n,ins,kids]]) else .pend b 84 4 pre)∧
  (d 7=true→d 6=false→AF s.e 26= .pptr b 0 pre.length)∧(d 5=true→AF s.e 27= .pptr b 4 pre.length)
 e6:AF s.e 6= .ref r6 0
 e8:AF s.e 8= .ref r8 0
 e23:d 1=true→AF s.e 23= .agg [.v (.int .i64 op),.v (.int .i64 n),.v ins,.v kids]
 e22:d 0=true→d 4=false→AF s.e 22= .own 84 4 pre
 e24:d 2=true→AF s.e 24= .v (.int .i64 pre.length)
 e25:d 3=true→AF s.e 25= .own 84 4 [.agg [.int .i64 0,.int .i64 0,.list [],.list []]]
section
variable (h:List Row) (C B:Row) (e0:CH)
end
open Go.Proofs
open Go.Proofs
section
structure FP (s d:Nat) (f:F):Prop where
 nd:∀g∈f.nodes,g.ok1∧BH g=true∧Jx 6 g=true
 sz:f.size≤s
 dp:f.depth≤d
theorem FP.mono {s d s' d':Nat} {f:F} (h:FP s d f) (hs:s≤s') (hd:d≤d'):FP s' d' f:=⟨h.nd,qo h.sz hs,qo h.dp hd⟩
theorem FP.ok {s d:Nat} {f:F} (h:FP s d f) (hs:s≤96) (hd:d≤8):f.ok∧Bt f=0∧f.nodes.all (Jx 6)=true:=by
 have h1:=h.sz;have h2:=h.dp;refine⟨⟨λg hg=>(h.nd g hg).1,by omega⟩,?_,qV.2 λg hg=>(h.nd g hg).2.2⟩;unfold Bt;rw[if_neg (by omega),if_pos (qV.2 λg hg=>(h.nd g hg).2.1)]
theorem Lz {d:Nat}:∀ {l:List F},(∀k∈l,k.depth≤d)→F.depths l≤d
 |[],_=>by simp[F.depths]
 |k::ks,h=>by
  have h1:=h k (by simp);have h2:=Lz (l:=ks) λx hx=>h x (by simp[hx]);simp only[F.depths];omega
variable {n:Nat}
theorem FP.node {op:Int} (ho:op=4∨op=5) {kids:List F} {s d:Nat} (hk:∀k∈kids,FP n d k) (hs:(kids.map F.size).sum≤s):FP (1+s) (d+1) (.mk op 0 [] kids):=by
 refine⟨λg hg=>?_,by rw[F.size_eq];omega,?_⟩
 ·rw[F.nodes_eq]at hg;rcases qL.1 hg with rfl|hg
  ·refine⟨⟨?_,by simp[F.n,i64],by simp[F.ins],by simp[F.ins]⟩,?_,?_⟩
   ·rcases ho with rfl|rfl<;>simp[F.op,i64]
   ·rcases ho with rfl|rfl<;>simp[BH,F.op,F.n,F.ins]
   ·rcases ho with rfl|rfl<;>simp[Jx,F.op]
  ·obtain⟨k,hk1,hk2⟩:=rM.1 hg;exact(hk k hk1).nd g hk2
 ·have:=Lz (l:=kids) λk hkk=>(hk k hkk).dp;simp only[F.depth];omega
structure CP (c:Clm):Prop where
 lr:c.refs.length≤2
 body:FP 7 3 c.body
 nt:c.body.tops.length≤2
 tops:∀p∈c.body.tops,FP 3 2 p
def sB:Nat→Nat
 |0=>7
 |k+1=>9+2*sB k
variable {b:Nat}
theorem Rc {a:Nat} (h:a≤b):sB a≤sB b:=by
 induction h with
 |refl=>exact qM _
 |step _ ih=>simp only[sB];omega
theorem T6 {α:Type} (f:α→Nat) (n:Nat):∀l:List α,(∀x∈l,f x≤n)→(l.map f).sum≤n*l.length
 |[],_=>by simp
 |x::l,h=>by
  have h1:=h x (by simp);have h2:=T6 f n l λy hy=>h y (by simp[hy]);simp only[qR,rq,qT,td];omega
theorem Un (T:List Clm) (hc:∀c∈T,CP c) (hlow:∀(k:Nat) (c:Clm),T[k]?=some c→∀r∈c.refs,0≤r∧r <(k:Int)):∀(k:Nat) (c:Clm),T[k]?=some c→FP (sB k) (3+2*k) (E6 (Bq (T.take k)) c):=by
 intro k;induction k using Nat.strongRecOn with
 |_ k ih=>
  intro c hk;have hcp:=hc c (qJ hk);unfold E6;by_cases h0:c.refs=[]
  ·rw[if_pos h0];exact hcp.body.mono (Rc (rF k)) (by omega)
  ·rw[if_neg h0];have hkl:k <T.length:=(qK.1 hk).1;have hk0:0 <k:=by
    obtain⟨r,hr⟩:=List.exists_mem_of_ne_nil _ h0;have:=hlow k c hk r hr;omega
   obtain⟨j,rfl⟩:∃j,k=j+1:=⟨k-1,by omega⟩;have hm:∀r∈c.refs,FP (sB j) (3+2*j) (((Bq (T.take (j+1)))[r.toNat]?).getD c.body):=by
    intro r hr;have hrl:=hlow _ c hk r hr;have hrk:r.toNat <j+1:=by omega
    obtain⟨c',hc'⟩:∃c',T[r.toNat]?=some c':=⟨_,qH (by omega)⟩;have h1:=ih r.toNat hrk c' hc';have h2:(Bq (T.take (j+1)))[r.toNat]?=some (E6 (Bq (T.take r.toNat)) c'):=by
     have e1:(Bq (T.take (r.toNat+1)))[r.toNat]?=some (E6 (Bq (T.take r.toNat)) c'):=by
      rw[Il T hc'];have:(Bq (T.take r.toNat)).length=r.toNat:=by rw[Ea,qv];omega
      rw[ql (by omega),this,tX];rfl
     rw[GO T (r.toNat+1) (by omega),qu,if_pos (by omega)]at e1;rw[GO T (j+1) (by omega),qu,if_pos hrk];exact e1
    rw[h2,qd];exact h1.mono (Rc (by omega)) (by omega)
   have hor:FP (1+sB j*c.refs.length) (3+2*j+1) (.mk 5 0 [] (c.refs.map λr=>((Bq (T.take (j+1)))[r.toNat]?).getD c.body)):=by
    refine FP.node (.inr rfl) (n:=sB j) (λf hf=>?_) ?_
    ·obtain⟨r,hr,rfl⟩:=qX.1 hf;exact hm r hr
    ·have:=T6 F.size (sB j) (c.refs.map λr=>((Bq (T.take (j+1)))[r.toNat]?).getD c.body) λf hf=>by
      obtain⟨r,hr,rfl⟩:=qX.1 hf;exact(hm r hr).sz
     rw[qr]at this;exact this
   have hl2:sB j*c.refs.length≤sB j*2:=tf _ hcp.lr;have h7:7≤sB j:=Rc (rF j);have hand:=FP.node (op:=4) (.inl rfl) (kids:=[c.body,.mk 5 0 [] (c.refs.map λr=>((Bq (T.take (j+1)))[r.toNat]?).getD c.body)]) (s:=8+sB j*2) (d:=3+2*j+1) (n:=7+(1+sB j*2)) (λf hf=>by
    simp only[qL,qn,or_false]at hf;rcases hf with rfl|rfl
    ·exact hcp.body.mono (by omega) (by omega)
    ·exact hor.mono (by omega) (qM _)) (by
    have h1:=hcp.body.sz;have h2:=hor.sz;simp only[qR,rW,rq,List.sum_nil];omega)
   refine hand.mono ?_ (by omega);simp only[sB];omega
theorem M8 (T:List Clm) (hn:T.length≤3) (hc:∀c∈T,CP c) (hlow:∀(k:Nat) (c:Clm),T[k]?=some c→∀r∈c.refs,0≤r∧r <(k:Int)):∀f∈Bq T,f.ok∧Bt f=0∧f.nodes.all (Jx 6)=true:=by
 intro f hf;obtain⟨k,hk⟩:=sj.1 hf;have hkl:k <T.length:=by rw[←Ea T];exact(qK.1 hk).1
 obtain⟨c,hck⟩:∃c,T[k]?=some c:=⟨_,qH hkl⟩;have h1:=Un T hc hlow k c hck;have h2:(Bq T)[k]?=some (E6 (Bq (T.take k)) c):=by
  have e1:(Bq (T.take (k+1)))[k]?=some (E6 (Bq (T.take k)) c):=by
   rw[Il T hck];have:(Bq (T.take k)).length=k:=by rw[Ea,qv];omega
   rw[ql (by omega),this,tX];rfl
  rw[GO T (k+1) (by omega),qu,if_pos (by omega)]at e1;exact e1
 rw[hk]at h2;simp only[qF]at h2;subst h2;have hs:sB k≤sB 2:=Rc (by omega);have e2:sB 2=55:=by decide
 exact h1.ok (by omega) (by omega)
theorem MK (l:List Clm):(Dk l).length=l.length:=by
 have:∀(l:List Clm) (acc:List (List F)),(l.foldl (λacc c=>acc++[HL acc c]) acc).length=acc.length+l.length:=by
  intro l;induction l with
  |nil=>simp
  |cons c l ih=>intro acc;rw[sc,ih];simp;omega
 have h:=this l [];rw[ra,rt]at h;exact h
variable {k:Nat}
theorem Te (l:List Clm) {c:Clm} (h:l[k]?=some c):Dk (l.take (k+1))=Dk (l.take k)++[HL (Dk (l.take k)) c]:=by
 rw[qc,h];unfold Dk;rw[sq];rfl
theorem MJ (l:List Clm):∀k,k≤l.length→Dk (l.take k)=(Dk l).take k:=by
 have:∀(l m:List Clm),(Dk (l++m)).take l.length=Dk l:=by
  intro l m;unfold Dk;rw[sq];have:∀(m:List Clm) (acc:List (List F)),∃t,m.foldl (λacc c=>acc++[HL acc c]) acc=acc++t:=by
   intro m;induction m with
   |nil=>intro acc;exact⟨[],by simp⟩
   |cons c m ih=>
    intro acc;obtain⟨t,ht⟩:=ih (acc++[HL acc c]);exact⟨[HL acc c]++t,by rw[sc,ht];simp⟩
  obtain⟨t,ht⟩:=this m (l.foldl (λacc c=>acc++[HL acc c]) []);rw[ht];have:=MK l;unfold Dk at this;rw[sk (by omega),qw (by omega)]
 intro k hk;have h:=this (l.take k) (l.drop k);rw[rJ]at h;rw[←h,qv,tR hk]
theorem LE (l:List Clm) {c:Clm} (h:l[k]?=some c) (n:Nat) (hn:k <n) (hl:n≤l.length):(Dk (l.take n))[k]?=some (HL (Dk (l.take k)) c):=by
 have hkl:k <l.length:=(qK.1 h).1;have e1:(Dk (l.take (k+1)))[k]?=some (HL (Dk (l.take k)) c):=by
  rw[Te l h];have:(Dk (l.take k)).length=k:=by rw[MK,qv];omega
  rw[ql (by omega),this,tX];rfl
 rw[MJ l (k+1) (by omega),qu,if_pos (by omega)]at e1;rw[MJ l n hl,qu,if_pos hn];exact e1
structure AP (s:Nat) (f:F):Prop where
 parts:∀p∈CJ f,FP s 2 p
 sum:((CJ f).map F.size).sum≤s
 all:FP (s+1) 3 f
theorem AP.mono {s s':Nat} {f:F} (h:AP s f) (hs:s≤s'):AP s' f:=⟨λp hp=>(h.parts p hp).mono hs (qM _),qo h.sum hs,h.all.mono (by omega) (qM _)⟩
theorem AP.piece {f:F} (h:FP 3 2 f):AP 3 f:=by
 have hall:FP 4 3 f:=h.mono (by decide) (by decide);obtain⟨op,n,ins,kids⟩:=f;have hsz:=h.sz;have hdp:=h.dp;rw[F.size_eq]at hsz;by_cases h4:op=4
 ·have hp:CJ (.mk op n ins kids)=kids:=by simp[CJ,F.op,F.kids,h4]
  refine⟨λp hpm=>?_,?_,hall⟩
  ·rw[hp]at hpm;have h1:=F.kid_size hpm;refine⟨λg hg=>h.nd g ?_,by omega,?_⟩
   ·rw[F.nodes_eq];exact sa _ (rM.2 ⟨p,hpm,hg⟩)
   ·have:∀(l:List F),p∈l→p.depth≤F.depths l:=by
     intro l;induction l with
     |nil=>intro h;cases h
     |cons x l ih=>
      intro h;simp only[F.depths];rcases qL.1 h with rfl|h
      ·omega
      ·have:=ih h;omega
    have:=this kids hpm;simp only[F.depth]at hdp;omega
  ·rw[hp];omega
 ·have hp:CJ (.mk op n ins kids)=[.mk op n ins kids]:=by simp[CJ,F.op,h4]
  refine⟨λp hpm=>?_,?_,hall⟩
  ·rw[hp]at hpm;rw[qO.1 hpm];exact h
  ·rw[hp];simp only[qR,rW,rq,List.sum_nil,F.size_eq];omega
theorem AP.mkA {s s':Nat} {a b:F} (ha:AP s a) (hb:AP s' b):AP (s+s') (mkA a b):=by
 have hp:CJ (Go.Va.mkA a b)=CJ a++CJ b:=by simp[Go.Va.mkA,CJ,F.op,F.kids]
 have hparts:∀p∈CJ a++CJ b,FP (s+s') 2 p:=by
  intro p hpm;rcases qW.1 hpm with h|h
  ·exact(ha.parts p h).mono (by omega) (qM _)
  ·exact(hb.parts p h).mono (by omega) (qM _)
 have hsum:((CJ a++CJ b).map F.size).sum≤s+s':=by
  rw[qh,List.sum_append];have:=ha.sum;have:=hb.sum;omega
 refine⟨by rw[hp];exact hparts,by rw[hp];exact hsum,?_⟩;have:=FP.node (op:=4) (.inl rfl) hparts hsum;exact this.mono (by omega) (by omega)
def lB:Nat→Nat
 |0=>2
 |k+1=>4*lB k
theorem R9 {a:Nat} (h:a≤b):lB a≤lB b:=by
 induction h with
 |refl=>exact qM _
 |step _ ih=>simp only[lB];omega
theorem Hu {α β:Type} (f:α→List β) (n:Nat):∀l:List α,(∀x∈l,(f x).length≤n)→(l.flatMap f).length≤n*l.length
 |[],_=>by simp
 |x::l,h=>by
  have h1:=h x (by simp);have h2:=Hu f n l λy hy=>h y (by simp[hy]);simp only[qN,qG,qT,td];omega
theorem LF (T:List Clm) (hc:∀c∈T,CP c) (hlow:∀(k:Nat) (c:Clm),T[k]?=some c→∀r∈c.refs,0≤r∧r <(k:Int)):∀(k:Nat) (c:Clm),T[k]?=some c→
  (HL (Dk (T.take k)) c).length≤lB k∧∀f∈HL (Dk (T.take k)) c,AP (3*(k+1)) f:=by
 intro k;induction k using Nat.strongRecOn with
 |_ k ih=>
  intro c hk;have hcp:=hc c (qJ hk);unfold HL;by_cases h0:c.refs=[]
  ·rw[if_pos h0];refine⟨qo hcp.nt (R9 (rF k)),λf hf=>(AP.piece (hcp.tops f hf)).mono (by omega)⟩
  ·rw[if_neg h0];have hkl:k <T.length:=(qK.1 hk).1;have hk0:0 <k:=by
    obtain⟨r,hr⟩:=List.exists_mem_of_ne_nil _ h0;have:=hlow k c hk r hr;omega
   obtain⟨j,rfl⟩:∃j,k=j+1:=⟨k-1,by omega⟩;have hm:∀r∈c.refs,∃L,((Dk (T.take (j+1)))[r.toNat]?).getD []=L∧L.length≤lB j∧∀f∈L,AP (3*(j+1)) f:=by
    intro r hr;have hrl:=hlow _ c hk r hr;have hrk:r.toNat <j+1:=by omega
    obtain⟨c',hc'⟩:∃c',T[r.toNat]?=some c':=⟨_,qH (by omega)⟩;obtain⟨h1,h1'⟩:=ih r.toNat hrk c' hc';have h2:=LE T hc' (j+1) hrk (by omega);refine⟨_,by rw[h2,qd],qo h1 (R9 (by omega)),λf hf=>(h1' f hf).mono (by omega)⟩
   constructor
   ·have h1:=Hu (λr=>((((Dk (T.take (j+1)))[r.toNat]?).getD []).flatMap λa=>c.body.tops.map λb=>Go.Va.mkA a b)) (2*lB j) c.refs (λr hr=>by
     obtain⟨L,hL,hl,_⟩:=hm r hr;rw[hL];have:=Hu (λa=>c.body.tops.map λb=>Go.Va.mkA a b) 2 L (λa _=>by rw[qr];exact hcp.nt);have h3:2*L.length≤2*lB j:=tf _ hl;omega)
    have h2:2*lB j*c.refs.length≤2*lB j*2:=tf _ hcp.lr;simp only[lB];omega
   ·intro f hf;obtain⟨r,hr,hf⟩:=rM.1 hf;obtain⟨L,hL,_,hap⟩:=hm r hr;rw[hL]at hf;obtain⟨a,ha,hf⟩:=rM.1 hf;obtain⟨b,hb,rfl⟩:=qX.1 hf;exact(AP.mkA (hap a ha) (AP.piece (hcp.tops b hb))).mono (by omega)
theorem V9 (T:List Clm) (hn:T.length≤3) (hc:∀c∈T,CP c) (hlow:∀(k:Nat) (c:Clm),T[k]?=some c→∀r∈c.refs,0≤r∧r <(k:Int)) (k:Nat) (hk:k <T.length):cG 6 (C4 T k):=by
 obtain⟨c,hck⟩:∃c,T[k]?=some c:=⟨_,qH hk⟩;obtain⟨h1,h2⟩:=LF T hc hlow k c hck;have h3:=LE T hck T.length hk (qM _);rw[qm]at h3;have e:C4 T k=HL (Dk (T.take k)) c:=by unfold C4;rw[qt,h3];rfl
 rw[e];have hl:lB k≤lB 2:=R9 (by omega);have e2:lB 2=32:=by decide
 refine⟨by omega,λf hf=>?_⟩;exact(h2 f hf).all.ok (by omega) (by omega)
end
section
theorem eX (k:Int):Jx 6 (DJ k)=true:=by
 have h:=tI (IntKind.i64.wrap (k.tdiv 8)) (b:=6) (by decide);simp only[Jx,DJ,F.op,F.n,decide_true,rC,rV];exact decide_eq_false (Int.not_le.2 h)
theorem Nm {f:F} (h:f.op≠1):Jx 6 f=true:=by simp[Jx,h]
structure P3 (f:F):Prop where
 sz:f.size≤3
 dp:f.depth≤2
 cl:∀g∈f.nodes,Jx 6 g=true
 op:f.op≠5
theorem Mz (n:Int):P3 (Dm n):=by
 unfold Dm;generalize Aj n 1048576=k;have hC:Jx 6 (Db k)=true:=Nm (by simp[Db,F.op]);have hA:=eX k;have nA:(DJ k).nodes=[DJ k]:=by unfold DJ;rw[F.nodes_eq];simp
 have nC:(Db k).nodes=[Db k]:=by unfold Db;rw[F.nodes_eq];simp
 have sA:(DJ k).size=1:=by unfold DJ;rw[F.size_eq];simp
 have sC:(Db k).size=1:=by unfold Db;rw[F.size_eq];simp
 have dA:(DJ k).depth=1:=by simp[DJ,F.depth,F.depths]
 have dC:(Db k).depth=1:=by simp[Db,F.depth,F.depths]
 simp only
 repeat' split
 ·exact⟨by omega,by omega,by rw[nA];simpa using hA,by simp[DJ,F.op]⟩
 ·exact⟨by omega,by omega,by rw[nC];simpa using hC,by simp[Db,F.op]⟩
 ·refine⟨by rw[F.size_eq];simp[sA,sC],by simp[F.depth,F.depths,dA,dC],?_,by simp[F.op]⟩;rw[F.nodes_eq];simp only[qN,sr,nA,nC];intro g hg;simp at hg;rcases hg with rfl|rfl|rfl
  ·exact Nm (by simp[F.op])
  ·exact hC
  ·exact hA
 ·refine⟨by rw[F.size_eq];simp[sA],by simp[F.depth,F.depths,dA],?_,by simp[F.op]⟩;rw[F.nodes_eq];simp only[qN,sr,nA];intro g hg;simp at hg;rcases hg with rfl|rfl
  ·exact Nm (by simp[F.op])
  ·exact hA
 ·refine⟨by rw[F.size_eq];simp[sA],by simp[F.depth,F.depths,dA],?_,by simp[F.op]⟩;rw[F.nodes_eq];simp only[qN,sr,nA];intro g hg;simp at hg;rcases hg with rfl|rfl
  ·exact Nm (by simp[F.op])
  ·exact hA
theorem P3.tops {f:F} (h:P3 f):f.tops=[f]:=by
 have h5:=h.op;obtain⟨o,n,i,k⟩:=f;rw[F.tops_eq,if_neg (show ¬o=5 from h5)]
theorem P3.fp {f:F} (h:P3 f) (ho:∀g∈f.nodes,g.ok1) (hf:∀g∈f.nodes,BH g=true):FP 3 2 f:=⟨λg hg=>⟨ho g hg,hf g hg,h.cl g hg⟩,h.sz,h.dp⟩
theorem Pj {f:F} (h:Bt f=0):∀g∈f.nodes,BH g=true:=by
 unfold Bt at h;split at h
 ·cases h
 ·split at h
  ·rename_i hall;exact qV.1 hall
  ·cases h
theorem TO (l:List Int) (i:Nat) (hi:i≤3) (hz:Bt (Gw l i).body=0):CP (Gw l i):=by
 have ht:=H3 l i hi;have hn:=Pj hz;have ho:=λg hg=>(ht.body.one g hg).1;refine⟨ht.lr,?_,?_,?_⟩
 all_goals
  revert hn ho
  unfold Gw;generalize Ai l (2*i+1) 1000=k;generalize Ai l (2*i+2) 1048576=m;simp only;have p1:=Mz m;have p2:=Mz (IntKind.i64.wrap (k.tdiv 4));generalize Dm m=a at*;generalize Dm (IntKind.i64.wrap (k.tdiv 4))=b at*;split
  all_goals intro hn ho
 ·have ha:FP 3 2 a:=p1.fp (λg hg=>ho g (by rw[F.nodes_eq];simp[hg])) (λg hg=>hn g (by rw[F.nodes_eq];simp[hg]));have hb:FP 3 2 b:=p2.fp (λg hg=>ho g (by rw[F.nodes_eq];simp[hg])) (λg hg=>hn g (by rw[F.nodes_eq];simp[hg]));exact FP.node (s:=6) (.inr rfl) (kids:=[a,b]) (by
   intro x hx;simp at hx;rcases hx with rfl|rfl
   ·exact ha
   ·exact hb) (by have:=p1.sz;have:=p2.sz;simp;omega)
 ·exact(p1.fp ho hn).mono (by decide) (by decide)
 ·rw[F.tops_eq,if_pos rfl];simp[p1.tops,p2.tops]
 ·rw[p1.tops];simp
 ·rw[F.tops_eq,if_pos rfl];simp only[qN,sr,p1.tops,p2.tops];intro x hx;simp at hx;rcases hx with rfl|rfl
  ·exact p1.fp (λg hg=>ho g (by rw[F.nodes_eq];simp[hg])) (λg hg=>hn g (by rw[F.nodes_eq];simp[hg]))
  ·exact p2.fp (λg hg=>ho g (by rw[F.nodes_eq];simp[hg])) (λg hg=>hn g (by rw[F.nodes_eq];simp[hg]))
 ·rw[p1.tops];intro x hx;simp at hx;subst hx;exact p1.fp ho hn
variable {k:Nat}
theorem P1 {T:List Clm} (hz:CV T=0) {c:Clm} (hk:T[k]?=some c):ED c.refs k=true∧Bt c.body=0:=by
 unfold CV at hz;split at hz
 ·cases hz
 ·have hlt:=(qK.1 hk).1;have h:=Iq _ _ hz k (by omega) (by omega);unfold Ji at h;rw[hk]at h;simp only[L6]at h;split at h
  ·cases h
  ·split at h
   ·rename_i h2;exact⟨h2,h⟩
   ·cases h
theorem UI {l:List Int} {i:Int} (h:ED l i=true):∀r∈l,0≤r∧r <i:=by
 have hall:∀k <l.length,DO l k <l.getD k 0∧l.getD k 0 <i:=by
  intro k hk;unfold ED at h;simp only[rV,sD,qj]at h;have:=h k hk;simp only[Cx,decide_eq_true_eq,not_or,Int.not_le]at this;exact this
 have hpos:∀k <l.length,0≤l.getD k 0:=by
  intro k;induction k with
  |zero=>intro hk;have:=(hall 0 hk).1;simp only[DO]at this;omega
  |succ k ih=>intro hk;have h1:=(hall (k+1) hk).1;have h2:=ih (by omega);simp only[DO]at h1;omega
 intro r hr;obtain⟨k,hk,rfl⟩:=List.getElem_of_mem hr;have h1:=hpos k hk;have h2:=(hall k hk).2;have e:l.getD k 0=l[k]:=by simp[List.getD,hk]
 rw[e]at h1 h2;exact⟨h1,h2⟩
structure CsP (T:List Clm):Prop where
 n:T.length≤3
 cp:∀c∈T,CP c
 low:∀(k:Nat) (c:Clm),T[k]?=some c→∀r∈c.refs,0≤r∧r <(k:Int)
 z:CV T=0
 tiny:∀c∈T,c.tiny
theorem P2 (l:List Int) (hz:CV (CX l)=0):CsP (CX l):=by
 have hn:=JQ l;have hlen:(CX l).length=Ic l:=by unfold CX;simp
 have hat:∀(k:Nat) (c:Clm),(CX l)[k]?=some c→k <Ic l∧c=Gw l k:=by
  intro k c h;have hk:=(qK.1 h).1;rw[hlen]at hk;unfold CX at h;rw[qZ,sH hk]at h;simp only[qq,qF]at h;exact⟨hk,h.symm⟩
 refine⟨by omega,?_,λk c h=>UI (P1 hz h).1,hz,?_⟩
 ·intro c hc;obtain⟨k,hk⟩:=sj.1 hc;obtain⟨h1,rfl⟩:=hat k c hk;exact TO l k (by omega) (P1 hz hk).2
 ·intro c hc;obtain⟨k,hk⟩:=sj.1 hc;obtain⟨h1,rfl⟩:=hat k c hk;exact H3 l k (by omega)
theorem CsP.mean {T:List Clm} (h:CsP T):MeanOK T where
 len:=by have:=h.n;omega
 ok:=λc hc=>(h.tiny c hc).ok
 refs:=λc hc=>by have:=(h.cp c hc).lr;omega
 low:=h.low
 mean:=λf hf=>by have:=M8 T h.n h.cp h.low f hf;exact⟨this.1,this.2.1⟩
theorem CsP.fine {r:Rgt} (h:CsP r.claims) (hb:r.bad.length≤2^40):r.fine 6:=⟨hb,h.mean,h.z,λf hf=>(M8 r.claims h.n h.cp h.low f hf).2.2⟩
theorem CsP.alts {T:List Clm} (h:CsP T) (k:Nat) (hk:k <T.length):cG 6 (C4 T k):=V9 T h.n h.cp h.low k hk
end
def Ke (rs:List Rgt) (f:Int):Rgt:=(rs.find? λq=>q.file==f).getD ⟨0,0,0,[],[],[],[],[]⟩
open Go.Proofs
open Go.Proofs
open Go.Proofs
end Go.Va
