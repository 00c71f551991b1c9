/- Laws that ExtractBytes leans on, part 10. No condition of its own. -/
import Derived.Test.YtopldfpkgbkomaaGreatDoorL09
set_option linter.all false
set_option maxRecDepth 100000
set_option maxHeartbeats 4000000
noncomputable section
namespace Go.Va
open Go.Proofs
def RunY (P:Program) (GL:Ac) (r:Nat):List V→List Row→Bool→List Row→Prop
 |[],X,b,X'=>b=true∧X'=X
 |n::ns,X,b,X'=>∃b1 X1,X1.length=X.length∧(∀J,∃J2,ZD P GL r [.v n] (X++J) b1 (X1++(J++J2)))∧if b1 then RunY P GL r ns X1 b X' else b=false∧X'=X1
section
variable {P:Program} {GL:Ac} {r:Nat}
theorem RunY.len:∀ {ns:List V} {X:List Row} {b:Bool} {X':List Row},RunY P GL r ns X b X'→X'.length=X.length
 |[],X,b,X',h=>by rw[h.2]
 |n::ns,X,b,X',h=>by
  obtain⟨b1,X1,h1,_,h2⟩:=h;cases b1 with
  |true=>rw[RunY.len h2,h1]
  |false=>rw[h2.2,h1]
theorem RunY.app:∀ {xs ys:List V} {X:List Row} {b:Bool} {X':List Row},RunY P GL r (xs++ys) X b X'→∃b1 X1,RunY P GL r xs X b1 X1∧if b1 then RunY P GL r ys X1 b X' else b=false∧X'=X1
 |[],ys,X,b,X',h=>⟨true,X,⟨rfl,rfl⟩,h⟩
 |x::xs,ys,X,b,X',h=>by
  obtain⟨b1,X1,h1,h2,h3⟩:=h;cases b1 with
  |true=>
   obtain⟨b2,X2,h4,h5⟩:=RunY.app (xs:=xs) h3;exact⟨b2,X2,⟨true,X1,h1,h2,h4⟩,h5⟩
  |false=>exact⟨false,X1,⟨false,X1,h1,h2,rfl,rfl⟩,h3⟩
end
theorem lm (x:F) (c:Nat) (h:List Row) (a:Nat) (hc:h[c]?=some (.cells [.func 148 [.ref a 0,.ref c 0]])) (b:Bool) (h':List Row)
  (hp:FX 148 [.v x.V,.ref a 0,.ref c 0] (h++[.cells x.cells]) [.v (.bool b)] h'):FX 150 [.v x.V,.ref c 0] h [.v (.bool (!b))] h':=by
 refine Fn 150 ?_;have hc2:=Az [.cells x.cells] hc;obtain⟨xo,xn,xi,xk⟩:=x;simp only[F.cells,F.op,F.n,F.ins,F.kids,F.V_eq]at*;simp only[At 150,AE,AG,AA 150 0,AA 150 1,Ab];simp[hc2,D.vs?,D.v?];refine⟨_,_,hp,?_⟩;simp[AD,AX 150]
theorem nE (r:Nat) (a c:Nat) (kids:List F) (hk:∀k∈kids,∀X b X' J i j,a=X.length+i→c=X.length+j→RunY Tryz.prog An r (k.nodes.map F.V) X b X'→J[i]?=some (.cells [.yld r])→J[j]?=some (.cells [.func 148 [.ref a 0,.ref c 0]])→
   ∃J',FX 148 [.v k.V,.ref a 0,.ref c 0] (X++J) [.v (.bool b)] (X'++(J++J'))):
  ∀(X:List Row) (b:Bool) (X':List Row) (J:List Row) (i j:Nat),a=X.length+i→c=X.length+j→RunY Tryz.prog An r ((kids.flatMap F.nodes).map F.V) X b X'→J[i]?=some (.cells [.yld r])→J[j]?=some (.cells [.func 148 [.ref a 0,.ref c 0]])→
   ∃J' q,IdxR Tryz.prog An 150 [.ref c 0] (kids.map F.V) (X++J) q (X'++(J++J'))∧q.isSome= !b:=by
 induction kids with
 |nil=>
  rintro X b X' J i j ha hc ⟨rfl,rfl⟩ hi hj;exact⟨[],none,⟨rfl,by simp⟩,rfl⟩
 |cons k ks ih=>
  intro X b X' J i j ha hc hr hi hj;rw[qN,qh]at hr;obtain⟨b1,X1,h1,h2⟩:=hr.app;have hl:=h1.len;obtain⟨J1,hp⟩:=hk k (by simp) X b1 X1 (J++[.cells k.cells]) i j ha hc h1 (Az _ hi) (Az _ hj);have hcc:(X++J)[c]?=some (.cells [.func 148 [.ref a 0,.ref c 0]]):=by rw[Bn X J c j hc];exact hj
  rw[←qg]at hp;have hq:=lm k c (X++J) a hcc b1 _ hp;cases b1 with
  |true=>
   simp only[if_true]at h2;obtain⟨J2,q,h3,h4⟩:=ih (λx hx=>hk x (by simp[hx])) X1 b X' (J++[.cells k.cells]++J1) i j (by rw[hl];exact ha) (by rw[hl];exact hc) h2 (Az _ (Az _ hi)) (Az _ (Az _ hj));refine⟨[.cells k.cells]++J1++J2,q.map (· +1),⟨false,_,hq,?_⟩,by cases q<;>simpa using h4⟩
   simp only[qY,if_false];refine⟨q,?_,rfl⟩;simpa[qg]using h3
  |false=>
   simp only[qY,if_false]at h2;obtain⟨rfl,rfl⟩:=h2;refine⟨[.cells k.cells]++J1,some 0,⟨true,_,hq,?_⟩,rfl⟩;simp[qg]
theorem lu (r:Nat) (a c:Nat):∀f:F,f.ok→∀X b X' J i j,a=X.length+i→c=X.length+j→RunY Tryz.prog An r (f.nodes.map F.V) X b X'→J[i]?=some (.cells [.yld r])→J[j]?=some (.cells [.func 148 [.ref a 0,.ref c 0]])→
   ∃J',FX 148 [.v f.V,.ref a 0,.ref c 0] (X++J) [.v (.bool b)] (X'++(J++J')):=by
 refine F.ind λop n ins kids ih hok=>?_;intro X b X' J i j ha hc hr hi hj;have hsz:=hok.2;rw[F.size_eq]at hsz;have hkl:=F.kids_len kids;rw[F.nodes_eq,qR]at hr;obtain⟨b1,X1,hl,hy,hr2⟩:=hr;obtain⟨J2,hy2⟩:=hy (J++[.cells (F.mk op n ins kids).cells]);have ga:(X++(J++[.cells (F.mk op n ins kids).cells]))[a]?=some (.cells [.yld r]):=by rw[Bn X _ a i ha];exact Az _ hi
 have gc:(X++(J++[.cells (F.mk op n ins kids).cells]))[c]?=some (.cells [.func 148 [.ref a 0,.ref c 0]]):=by rw[Bn X _ c j hc];exact Az _ hj
 have gf:(X++(J++[.cells (F.mk op n ins kids).cells]))[X.length+J.length]?=some (.cells (F.mk op n ins kids).cells):=by rw[Bn X _ _ J.length rfl];simp
 have gf2:(X1++(J++[.cells (F.mk op n ins kids).cells]++J2))[X.length+J.length]?=some (.cells (F.mk op n ins kids).cells):=by rw[Bn X1 _ _ J.length (by rw[hl])];simp
 have hkids:∀x∈kids.map F.V,∃cs,x=V.agg cs∧cs.length=4:=by
  intro x hx;obtain⟨k,_,rfl⟩:=qX.1 hx;obtain⟨ko,kn,ki,kk⟩:=k;exact⟨_,F.V_eq ..,rfl⟩
 have e0:X++J++[.cells (F.mk op n ins kids).cells]=X++(J++[.cells (F.mk op n ins kids).cells]):=qg ..;cases b1 with
 |false=>
  obtain⟨rfl,rfl⟩:=hr2;refine⟨[.cells (F.mk op n ins kids).cells]++J2,Fn 148 ?_⟩;simp only[F.cells,F.op,F.n,F.ins,F.kids,F.V_eq]at*;simp only[At 148,AE,AG,AA 148 0,AA 148 1,Ab];simp[-Bool.exists_bool];simp[ga,-Bool.exists_bool];refine⟨_,_,hy2,?_⟩;simp[AD,AX 148]
 |true=>
  simp only[if_true]at hr2;obtain⟨J3,q,hidx,hq⟩:=nE r a c kids (λk hk=>ih k hk (F.ok_kid hok hk)) X1 b X' (J++[.cells (F.mk op n ins kids).cells]++J2) i j (by rw[hl];exact ha) (by rw[hl];exact hc) hr2 (Az _ (Az _ hi)) (Az _ (Az _ hj));have hp:=lq (.func 150 [.ref c 0]) 150 [.ref c 0] (FV.r 150 c 0 []) (kids.map F.V) (by simp;omega) hkids hidx;refine⟨[.cells (F.mk op n ins kids).cells]++J2++J3,Fn 148 ?_⟩;simp only[F.cells,F.op,F.n,F.ins,F.kids,F.V_eq]at*;simp only[At 148,AE,AG,AA 148 0,AA 148 1,Ab];simp[-Bool.exists_bool];simp[ga,-Bool.exists_bool];refine⟨_,_,hy2,?_⟩;simp at gf2;simp[gf2,D.vs?,D.v?];simp at hp;rw[hq]at hp;refine⟨_,_,hp,?_⟩;simp[AD,AX 148]
theorem jP (f:F) (h:List Row):FX 68 [.v f.V] h [.func 147 [.ref h.length 0]] (h++[.cells f.cells]):=by
 refine Fn 68 ?_;obtain⟨op,n,ins,kids⟩:=f;simp[At 68,awp,AA 68 0,AA 68 1,AX 68,Ab,F.V_eq,F.cells,F.op,F.n,F.ins,F.kids,D.vs?,D.v?]
theorem Zk (f:F) (hok:f.ok) (r q:Nat) (X:List Row) (b:Bool) (X':List Row) (hr:RunY Tryz.prog An r (f.nodes.map F.V) X b X') (hq:X[q]?=some (.cells f.cells)):
  ∃J,FX 147 [.yld r,.ref q 0] X [] (X'++J):=by
 obtain⟨J',hp⟩:=lu r X.length (X.length+1) f hok X b X' [.cells [.yld r],.cells [.func 148 [.ref X.length 0,.ref (X.length+1) 0]]] 0 1 rfl rfl hr rfl rfl;refine⟨[.cells [.yld r],.cells [.func 148 [.ref X.length 0,.ref (X.length+1) 0]]]++J',Fn 147 ?_⟩;obtain⟨op,n,ins,kids⟩:=f;have hq2:=Az [.cells [.yld r],.cells [.func 148 [.ref X.length 0,.ref (X.length+1) 0]]] hq;simp only[F.cells,F.op,F.n,F.ins,F.kids,F.V_eq]at*;simp only[At 147,AE,AG,AA 147 0,AA 147 1,AA 147 2,AA 147 3,Ab];simp[AS,D.v?]
 try simp at hq2
 simp[hq2];exact⟨⟨_,hp⟩,rfl⟩
theorem nG (A B:Row) (e0:CH) (he:AF e0 3= .ref 1 0):∀(ns:List V) (k:Nat),k+ns.length≤2^41→
  RunY Tryz.prog An 3 ns [A,.cells [.v (.int .i64 k)],B,BF Tryz.prog An .ready e0 [6] (lG 142 0) (lG 142 1000)] true [A,.cells [.v (.int .i64 (k+ns.length:Nat))],B,BF Tryz.prog An .ready e0 [6] (lG 142 0) (lG 142 1000)]:=by
 intro ns;induction ns with
 |nil=>intro k _;exact⟨rfl,rfl⟩
 |cons n ns ih=>
  intro k hk;simp only[qT]at hk;refine⟨true,[A,.cells [.v (.int .i64 (k+1:Nat))],B,BF Tryz.prog An .ready e0 [6] (lG 142 0) (lG 142 1000)],rfl,λJ=>⟨[],?_⟩,?_⟩
  ·refine GX (e0:=e0) (ps:=[6]) (asg:=(lG 142 0)) (body:=(lG 142 1000)) (by simp) rfl ?_;have hw:=Bo k;simp only[KT,BA 142 0,BA 142 1000,AG,AU,AB,AA 142 3];simp[he,hw,AS,Ha]
  ·have:=ih (k+1) (by omega);have e:k+1+ns.length=k+(n::ns).length:=by simp;omega
   rw[e]at this;exact this
theorem mC (f:F) (hok:f.ok):PX 142 [f.V] [.int .i64 f.size]:=by
 refine BU 142 ?_;have hsz:=hok.2;have h68:=jP f;have hr:=nG (.cells f.cells) (.cells f.cells) (L3 [(3,.ref 1 0),(5,.func 147 [.ref 2 0])]) rfl (f.nodes.map F.V) 0 (by simp;unfold F.size at hsz;omega);obtain⟨J,hp⟩:=Zk f hok 3 2 _ _ _ hr rfl;have e1:(f.nodes.map F.V).length=f.size:=by simp[F.size]
 rw[e1,rt]at hp;generalize f.size=sz at*;obtain⟨op,n,ins,kids⟩:=f;simp only[F.cells,F.op,F.n,F.ins,F.kids,F.V_eq]at*;simp only[At 142,AE,AG,AU,AA 142 0,AA 142 1,AA 142 2,AV];simp[AS];refine⟨_,_,h68 _,?_⟩;simp;refine FK 147 [.ref 2 0] [] _ _ .ready rfl rfl hp rfl ?_;simp[EE,AA 142 4,AD,AX 142]
theorem oj (A B:Row) (e0:CH) (he:AF e0 2= .ref 1 0) (g:F) (hg:g.ok1) (J:List Row):∃J2,ZD Tryz.prog An 3 [.v g.V] ([A,.cells [.v (.int .i64 0)],B,BF Tryz.prog An .ready e0 [14] (lG 66 0) (lG 66 1000)]++J) (BH g)
   ((if BH g then [A,.cells [.v (.int .i64 0)],B,BF Tryz.prog An .ready e0 [14] (lG 66 0) (lG 66 1000)] else [A,.cells [.v (.int .i64 1)],B,BF Tryz.prog An (.done none) e0 [14] (lG 66 0) (lG 66 1000)])++(J++J2)):=by
 refine⟨[.cells g.cells],GX (e0:=e0) (ps:=[14]) (asg:=(lG 66 0)) (body:=(lG 66 1000)) (by simp) rfl ?_⟩;have hp:=(mA g hg).fsp;generalize BH g=b at*;obtain⟨op,n,ins,kids⟩:=g;simp only[F.cells,F.op,F.n,F.ins,F.kids,F.V_eq]at*;simp only[Zw,KT,BA 66 0,BA 66 1000,AA 66 4,AA 66 5];have e:J.length+1+1+1+1=J.length+4:=by omega
 simp[he,AS];simp at hp;refine⟨_,_,hp _,?_⟩;cases b with
 |true=>simp[AB,Ha]
 |false=>simp[AD,AA 66 6,AS,Ha]
theorem pq (A B:Row) (e0:CH) (he:AF e0 2= .ref 1 0):∀(ns:List F),(∀g∈ns,g.ok1)→
  RunY Tryz.prog An 3 (ns.map F.V) [A,.cells [.v (.int .i64 0)],B,BF Tryz.prog An .ready e0 [14] (lG 66 0) (lG 66 1000)] (ns.all BH)
   (if ns.all BH then [A,.cells [.v (.int .i64 0)],B,BF Tryz.prog An .ready e0 [14] (lG 66 0) (lG 66 1000)] else [A,.cells [.v (.int .i64 1)],B,BF Tryz.prog An (.done none) e0 [14] (lG 66 0) (lG 66 1000)]):=by
 intro ns;induction ns with
 |nil=>intro _;exact⟨rfl,rfl⟩
 |cons n ns ih=>
  intro hk;have hy:=oj A B e0 he n (hk n (by simp));refine⟨BH n,_,?_,hy,?_⟩
  ·split<;>rfl
  ·cases hf:BH n with
   |true=>
    simp only[if_true,tS,hf,rC];exact ih λg hg=>hk g (by simp[hg])
   |false=>simp[hf]
theorem oP (f:F) (hok:f.ok):PX 66 [f.V] [.int .i64 (Bt f)]:=by
 refine BU 66 ?_;obtain⟨R,hR⟩:∃R,Bt f=R:=⟨_,rfl⟩;rw[hR];unfold Bt at hR;have h1:=(mC f hok).fsp;have h2:=(mB f hok).fsp;have h68:=jP f;have hr:=pq (.cells f.cells) (.cells f.cells) (L3 [(2,.ref 1 0),(13,.func 147 [.ref 2 0])]) rfl f.nodes hok.1;obtain⟨J,hp⟩:=Zk f hok 3 2 _ _ _ hr rfl;generalize f.nodes.all BH=al at*;generalize f.size=sz at*;generalize f.depth=dp at*;obtain⟨op,n,ins,kids⟩:=f;simp only[F.cells,F.op,F.n,F.ins,F.kids,F.V_eq]at*;simp only[Zw,At 66,AA 66 0,AA 66 1,AV];simp at h1 h2 h68;simp;refine⟨_,_,h1 _,?_⟩;by_cases b1:96 <sz
 ·have b1':96 <(sz:Int):=by omega
  simp[b1]at hR;simp[b1',AD,AA 66 2,AX 66,AS,hR]
 ·have b1':¬96 <(sz:Int):=by omega
  simp[b1'];refine⟨_,_,h2 _,?_⟩;by_cases b2:8 <dp
  ·have b2':8 <(dp:Int):=by omega
   simp[b2]at hR;simp[b2',AD,AA 66 2,AX 66,AS,hR]
  ·have b2':¬8 <(dp:Int):=by omega
   simp[b1,b2]at hR;simp[b2',AB,AA 66 3];refine⟨_,_,h68 _,?_⟩;simp;cases al with
   |true=>
    simp at hR;refine FK 147 [.ref 2 0] [] _ _ .ready rfl rfl hp rfl ?_;simp[EE,AD,AA 66 7,AX 66,AS,hR]
   |false=>
    simp at hR;refine FK 147 [.ref 2 0] [] _ _ (.done none) rfl rfl hp rfl ?_;simp[EE,AX 66,hR]
def iO:QK:=λ_ _ _=>none
def EF:List (List Int):=[[],[0],[0],[1,2],[],[4]]
theorem eH:∀ps∈EF,PX 120 [.int .i64 6,AH .i64 ps] [.bool true]:=by
 intro ps hps;simp only[EF,qL,qn,or_false]at hps;rcases hps with rfl|rfl|rfl|rfl|rfl|rfl
 all_goals exact GM (Pr:=iO) (fuel:=100) QJ (λf args h x hx=>by cases hx) (by kernel_rfl)
theorem eG:∀ps∈EF,PX 121 [AH .i64 ps] [.bool true]:=by
 intro ps hps;simp only[EF,qL,qn,or_false]at hps;rcases hps with rfl|rfl|rfl|rfl|rfl|rfl
 all_goals exact GM (Pr:=iO) (fuel:=100) QJ (λf args h x hx=>by cases hx) (by kernel_rfl)
theorem eE:∀ps∈EF,PX 122 [AH .i64 ps] [AH .i64 ps]:=by
 intro ps hps;simp only[EF,qL,qn,or_false]at hps;rcases hps with rfl|rfl|rfl|rfl|rfl|rfl
 all_goals exact GM (Pr:=iO) (fuel:=100) QJ (λf args h x hx=>by cases hx) (by kernel_rfl)
abbrev bv (b:Bool):D:= .v (.bool b)
def Hf:D:= .own 22 1 (EF.map (AH .i64))
def QL (bs:List Bool):Row:= .cells (Hf::bs.map bv)
def Cn (bs dn op:List Bool):List Row:=[QL bs,.cells [.ref 0 0],.cells (dn.map bv),.cells (op.map bv),.cells [.sref 2 6],.cells [.sref 3 6],.cells [.func 211 [.ref 4 0,.ref 5 0,.ref 1 0,.ref 6 0]]]
def S0 (i:Nat) (src:List Bool):Nat→List Bool→List Bool
 |0,bs=>bs
 |j+1,bs=>(S0 i src j bs).set (i*64+j) ((S0 i src j bs).getD (i*64+j) false||src.getD j false)
theorem N4 (i:Nat) (src:List Bool) (bs:List Bool):∀j,(S0 i src j bs).length=bs.length
 |0=>rfl
 |j+1=>by rw[S0,rD,N4 i src bs j]
def RO (i:Nat) (bs:List Bool) (p:Nat):List Bool:=S0 i ((bs.drop (p*64)).take 64) 64 bs
theorem m9 (i:Nat) (hi:i <6) (bs dn op src:List Bool) (hbs:bs.length=4096) (hs:src.length=64) (d41 d42 d43:D):
  awp Tryz.prog An (.loop (lG 211 1)) (λe s=>e= .exit 2∧AF s.e 0= .v (.int .i64 i)∧AF s.e 1= .ref 4 0∧AF s.e 3= .ref 1 0∧AF s.e 4= .ref 6 0∧AF s.e 41=d41∧AF s.e 42=d42∧AF s.e 43=d43∧s.h=Cn (S0 i src 64 bs) dn op)
   ⟨[(0,.v (.int .i64 i)),(1,.ref 4 0),(3,.ref 1 0),(4,.ref 6 0),(41,d41),(42,d42),(43,d43),(56,.agg (src.map bv)),(57,.v (.int .i64 0))],Cn bs dn op⟩:=by
 refine AM 64 (λj=>⟨[(0,.v (.int .i64 i)),(1,.ref 4 0),(3,.ref 1 0),(4,.ref 6 0),(41,d41),(42,d42),(43,d43),(56,.agg (src.map bv)),(57,.v (.int .i64 j))],Cn (S0 i src j bs) dn op⟩) (by simp[S0]) ?_;intro j hj;simp only[Zw,BA 211 1,AA 211 11];simp;by_cases hlt:j <64
 ·have hw:=Bo j;have hnext:S0 i src (j+1) bs=(S0 i src j bs).set (i*64+j) ((S0 i src j bs).getD (i*64+j) false||src.getD j false):=rfl
  have hbl:=N4 i src bs j;rw[hnext];generalize S0 i src j bs=B at*;obtain⟨b,hb⟩:∃b,B[i*64+j]?=some b:=⟨_,qH (by omega)⟩;obtain⟨c,hc⟩:∃c,src[j]?=some c:=⟨_,qH (by omega)⟩;have hbD:B.getD (i*64+j) false=b:=by rw[t8,hb];rfl
  have hcD:src.getD j false=c:=by rw[t8,hc];rfl
  rw[hbD,hcD];obtain⟨ds,hds⟩:∃ds,Hf::B.map bv=ds:=⟨_,rfl⟩;have hlen:ds.length=4097:=by rw[←hds];simp;omega
  have hld:ds[1+i*64+j]?=some (bv b):=by rw[←hds,show 1+i*64+j=(i*64+j)+1 by omega];simp[hb]
  have hput:∀v,AS ds (1+i*64+j) [bv v]=Hf::(B.set (i*64+j) v).map bv:=by
   intro v;rw[←hds,show 1+i*64+j=(i*64+j)+1 by omega,AS];simp only[tb,uC,List.drop_succ_cons,List.map_set,rz];rw[s9,if_pos (by simp;omega)];simp
  have hlt2:(i:Int) <64:=by omega
  have hj2:(j:Int) <64:=by omega
  have hle:1+i*64+j+1≤4097:=by omega
  rw[if_pos (by omega),AB];simp only[AA 211 12,Cn,QL,hds];have hj63:j≤63:=by omega
  simp[hs,hc,hj63,AW,AA 211 13];simp[hlen,hld,hlt2,hj2,hlt,hle];cases b with
  |false=>
   simp[hput,AA 211 14,hw]
  |true=>
   simp[hput,AA 211 14,hw]
 ·have:j=64:=by omega
  subst this;rw[if_neg (by omega),AJ];simp
section
variable {k:Nat}
theorem QW {α:Type} {l:List α} {x:α} (h:l[k]?=some x):l.take (k+1)=l.take k++[x]:=by rw[qc,h];rfl
def F7 (i:Nat):List Bool:=(List.range 6).map λj=>decide (j <i)
def Nk (i:Nat):List Int:=EF.getD i []
def Kf (i:Nat) (bs:List Bool):List Bool:=(Nk i).foldl (λb p=>RO i b p.toNat) (bs.set (i*64+i) true)
theorem WM (i:Nat) (bs:List Bool) (p:Nat):(RO i bs p).length=bs.length:=N4 _ _ _ _
theorem Ls (i:Nat):∀(ps:List Int) (bs:List Bool),(ps.foldl (λb p=>RO i b p.toNat) bs).length=bs.length
 |[],_=>rfl
 |p::ps,bs=>by rw[sc,Ls i ps,WM]
theorem S8 (i:Nat) (bs:List Bool):(Kf i bs).length=bs.length:=by rw[Kf,Ls,rD]
theorem RX (i:Nat):(F7 i).length=6:=by simp[F7]
theorem RY (i p:Nat) (hp:p <6):(F7 i)[p]?=some (decide (p <i)):=by simp[F7,hp]
theorem WN (i:Nat) (hi:i <6):(F7 i).set i true=F7 (i+1):=by
 have:∀i <6,(F7 i).set i true=F7 (i+1):=by decide
 exact this i hi
theorem Rn (l:List Bool) (i:Nat) (v:Bool) (hi:i <l.length):AS (l.map bv) i [bv v]=(l.set i v).map bv:=by
 rw[AS,List.map_set,s9,if_pos (by simpa using hi)];simp
theorem dh (bs op:List Bool) (i p:Nat) (hp:p <i) (hi:i≤6):FX 211 [.v (.int .i64 p),.ref 4 0,.ref 5 0,.ref 1 0,.ref 6 0] (Cn bs (F7 i) op) [.v (.bool true)] (Cn bs (F7 i) op):=by
 refine Fn 211 ?_;have hl:=RX i;have hp6:p <6:=by omega
 have hd:(F7 i)[p]?=some true:=by rw[RY i p hp6];simp[hp]
 have hp5:p≤5:=by omega
 have hp6':(p:Int) <6:=by omega
 generalize F7 i=dn at*;have hde:∀h,dn[p]'h=true:=λh=>(qK.1 hd).2;simp only[At 211,AE,AG,AL,AA 211 0,AA 211 1,Ab,Cn];simp[hp6,hp6',hp5,hde,hl,AA 211 2,AD,AX 211]
theorem fM (i:Nat) (hi:i <6) (ps:List Int) (dn dn' B0:List Bool) (hB0:B0.length=4096) (hps:∀p∈ps,0≤p∧p.toNat <i) (hpn:ps.length≤2)
  (ha:∀bs (p:Nat),p <i→FX 211 [.v (.int .i64 p),.ref 4 0,.ref 5 0,.ref 1 0,.ref 6 0] (Cn bs dn dn') [.v (.bool true)] (Cn bs dn dn')):
  awp Tryz.prog An (.loop (lG 211 0)) (λe s=>e= .exit 0∧AF s.e 0= .v (.int .i64 i)∧AF s.e 1= .ref 4 0∧s.h=Cn (ps.foldl (λb p=>RO i b p.toNat) B0) dn dn')
   ⟨[(0,.v (.int .i64 i)),(1,.ref 4 0),(3,.ref 1 0),(4,.ref 6 0),(41,.v (AH .i64 ps)),(42,.v (.int .i64 ps.length)),(43,.v (.int .i64 0))],Cn B0 dn dn'⟩:=by
 have fl:∀k,((ps.take k).foldl (λb p=>RO i b p.toNat) B0).length=4096:=by
  intro k;rw[Ls,hB0]
 refine AM ps.length (λk=>⟨[(0,.v (.int .i64 i)),(1,.ref 4 0),(3,.ref 1 0),(4,.ref 6 0),(41,.v (AH .i64 ps)),(42,.v (.int .i64 ps.length)),(43,.v (.int .i64 k))],Cn ((ps.take k).foldl (λb p=>RO i b p.toNat) B0) dn dn'⟩) (by simp) ?_;intro k hk;have hBl:=fl k;simp only[Zw,BA 211 0,AA 211 6];simp[AH];by_cases hlt:k <ps.length
 ·obtain⟨p,hpk⟩:∃p,ps[k]?=some p:=⟨_,qH hlt⟩;have hw:=Bo k;obtain⟨hp0,hpi⟩:=hps p (qJ hpk);obtain⟨q,rfl⟩:∃q:Nat,p=q:=⟨p.toNat,by omega⟩;have hqi:q <i:=by omega
  have hsuc:(ps.take (k+1)).foldl (λb p=>RO i b p.toNat) B0=RO i ((ps.take k).foldl (λb p=>RO i b p.toNat) B0) q:=by
   rw[QW hpk,sq,sc,List.foldl_nil,qt]
  rw[hsuc];generalize (ps.take k).foldl (λb p=>RO i b p.toNat) B0=B at*;have hc:=ha B q hqi;have hq64:(q:Int) <64:=by omega
  have hq63:q≤63:=by omega
  have hsl:((B.drop (q*64)).take 64).length=64:=by rw[qv,List.length_drop];omega
  have q2:=m9 i hi B dn dn' ((B.drop (q*64)).take 64) hBl hsl (.v (AH .i64 ps)) (.v (.int .i64 ps.length)) (.v (.int .i64 k));have hup:RO i B q=S0 i ((B.drop (q*64)).take 64) 64 B:=by rw[RO]
  rw[←hup]at q2;generalize RO i B q=NB at*;clear hup;have hld:List.take 64 (List.drop (q*64) (List.map bv B))=((B.drop (q*64)).take 64).map bv:=by rw[rE,ro]
  have hcp:∀l:List Bool,List.map (D.copy ∘ bv) l=l.map bv:=λl=>by simp[tH,D.copy]
  have hle:1+q*64≤4033:=by omega
  have hdr:∀(x:D) (l:List D),List.drop (1+q*64) (x::l)=List.drop (q*64) l:=λx l=>by rw[Nat.add_comm];rfl
  rw[if_pos (by omega),AB];simp only[AA 211 7];simp[hpk,AA 211 8,Cn];simp only[Cn]at hc;refine⟨_,_,hc,?_⟩;simp[AB,AA 211 10,QL,hq64,hBl,hle,hdr,hcp];simp only[Cn,QL,AH]at q2;simp only[rE,ro]at q2;refine AZ _ ?_ q2;rintro e ⟨se,sh⟩ ⟨rfl,f0,f1,f3,f4,f41,f42,f43,hh⟩;simp only at f0 f1 f3 f4 f41 f42 f43 hh;subst hh;simp[AA 211 15,f0,f1,f3,f4,f41,f42,f43,hw,hlt]
 ·have:k=ps.length:=by omega
  subst this;rw[if_neg (by omega),AJ];simp
theorem lE (bs:List Bool) (i:Nat) (hi:i <6) (hbs:bs.length=4096):FX 211 [.v (.int .i64 i),.ref 4 0,.ref 5 0,.ref 1 0,.ref 6 0] (Cn bs (F7 i) (F7 i)) [.v (.bool true)] (Cn (Kf i bs) (F7 (i+1)) (F7 (i+1))):=by
 refine Fn 211 ?_;have hl:=RX i;have hd:(F7 i)[i]?=some false:=by rw[RY i i hi];simp
 have hi5:i≤5:=by omega
 have hi6':(i:Int) <6:=by omega
 have hset:=Rn (F7 i) i true (by omega);rw[WN i hi]at hset;have ha:=λbs p hp=>dh bs (F7 (i+1)) i p hp (by omega);have hpar:EF[i]?=some (Nk i):=by
  have:∀i <6,EF[i]?=some (Nk i):=by decide
  exact this i hi
 have hps:∀p∈Nk i,0≤p∧p.toNat <i:=by
  have:∀i <6,∀p∈Nk i,0≤p∧p.toNat <i:=by decide
  exact this i hi
 have hpn:(Nk i).length≤2:=by
  have:∀i <6,(Nk i).length≤2:=by decide
  exact this i hi
 have hres:Kf i bs=(Nk i).foldl (λb p=>RO i b p.toNat) (bs.set (i*64+i) true):=rfl;generalize Kf i bs=FB at*;generalize Nk i=ps at*;generalize F7 (i+1)=dn' at*;generalize F7 i=dn at*;have r0:AS (Hf::bs.map bv) (1+i*64+i) [bv true]=Hf::(bs.set (i*64+i) true).map bv:=by
  rw[show 1+i*64+i=(i*64+i)+1 by omega,AS];have:=Rn bs (i*64+i) true (by omega);rw[AS]at this;simpa using this
 have hi64:i≤63:=by omega
 have hi64':(i:Int) <64:=by omega
 have hle:1+i*64+i+1≤bs.length+1:=by omega
 simp only[At 211,AE,AG,AL,AA 211 0,AA 211 1,Ab,Cn];simp[hi5,hi6',hd,hl,AB,AA 211 3];simp[hset,AA 211 4,QL,hi64',r0,hle];have hpl:EF.length=6:=rfl;simp[AA 211 5,Hf,hpar,AH];have q:=fM i hi ps dn dn' (bs.set (i*64+i) true) (by rw[rD,hbs]) hps hpn ha;rw[←hres]at q;simp[Cn,QL,Hf,AH]at q;simp only[AU];refine AZ _ ?_ q;rintro e ⟨se,sh⟩ ⟨rfl,f0,f1,hh⟩;simp only at f0 f1 hh;subst hh;simp[AA 211 16,f0,f1,hi6',hi5,hl,hset,AA 211 17,AD,AX 211]
end
def P8:AC:=match la 123 with| .seq _ (.seq a _)=>a|_=> .skip
def ZA:AC:=match la 123 with| .seq _ (.seq _ b)=>b|_=> .skip
theorem Xl:(gA 123)= .seq (.reg (oG 123 0) [1]) (.seq P8 ZA):=(At 123 :)
def Tp:AT:=match P8 with| .regA _ _ _ t=>t|_=> .done
def gW:List (List Nat):=match P8 with| .regA _ _ c _=>c|_=>[]
theorem Vx:P8= .regA (oG 123 1) [1,3,4] gW Tp:=rfl
def O9 (rest:List D):Option (List St):=VF (ev Tb iO 4) [] (oG 123 1) Tp ⟨[(1,.ref 1 0)],[.cells (Hf::rest),.cells [.ref 0 0]]⟩
theorem eQ (rest:List D):O9 rest=(O9 []).map (List.map λo=>⟨o.e,o.h.set 0 (.cells (Hf::rest))⟩):=by kernel_rfl
def F6:Row:= .cells ((F7 0).map bv)
def aR:St:=⟨[(1,.ref 1 0),(3,.ref 4 0),(4,.ref 5 0)],[.cells [Hf],.cells [.ref 0 0],F6,F6,.cells [.sref 2 6],.cells [.sref 3 6]]⟩
def LX (o:St):List (Nat×Nat):=
 match AF o.e 3,AF o.e 4 with
 | .ref a _,.ref b _=>match o.h[a]?,o.h[b]? with
  |some (.cells [.sref u _]),some (.cells [.sref v _])=>[(a,4),(b,5),(u,2),(v,3)]
  |_,_=>[]
 |_,_=>[]
def Vk (o:St):Bool:=
 decide (o.h.length=6)&&LY 2 6 (LX o)&&M6 o.h&&decide (Fj (EI (LX o)) 0=0)&&((List.range 6).all λi=>decide (i=0)|| !decide (Fj (EI (LX o)) i=0))&&
  Ps [1,3,4] (Rg (LX o) o) aR
theorem Ue:(match O9 []with|some os=>os.all Vk|none=>false)=true:=by kernel_rfl
theorem ZX (π:List (Nat×Nat)) (bs:List Bool):Row.ren π (.cells (Hf::bs.map bv))= .cells (Hf::bs.map bv):=by
 simp[Row.ren,Dq,Hf,D.ren,tH]
theorem Ov (π:List (Nat×Nat)) (h:List Row) (X:Row) (hX:X.ren π=X) (hl:h.length=6) (h0:Fj (EI π) 0=0) (hi:∀i <6,i≠0→Fj (EI π) i≠0):C6 π (h.set 0 X)=(C6 π h).set 0 X:=by
 refine rj λi=>?_;simp only[C6,rD,hl,qZ];rcases qi i 6 with hi6|hi6
 ·rw[sH hi6];by_cases hz:i=0
  ·subst hz;rw[rA (by simp)];simp only[qq,h0];rw[rA (by omega)];simp[hX]
  ·rw[qz (Ne.symm hz),qZ,sH hi6];simp only[qq];rw[qz (Ne.symm (hi i hi6 hz))]
 ·rw[rG (by simpa using hi6),rG (by simpa using hi6)];rfl
theorem oF (bs:List Bool) (Q:AExit→St→Prop)
  (hQ:Q .normal ⟨[(1,.ref 1 0),(3,.ref 4 0),(4,.ref 5 0)],[QL bs,.cells [.ref 0 0],F6,F6,.cells [.sref 2 6],.cells [.sref 3 6]]⟩):
  awp Tryz.prog An P8 Q ⟨[(1,.ref 1 0)],[QL bs,.cells [.ref 0 0]]⟩:=by
 rw[Vx,CO];obtain⟨os,h0⟩:∃os,O9 []=some os:=by
  have h:=Ue;cases ho:O9 []with
  |none=>rw[ho]at h;cases h
  |some os=>exact⟨os,rfl⟩
 have hchk:=Ue;rw[h0]at hchk;have he:=eQ (bs.map bv);rw[h0,qq]at he;obtain⟨-,hall⟩:=KB (P:=Tryz.prog) (GL:=An) (Qx QJ (λf args h x hx=>by cases hx) 4) Tp he ⟨λr hr=>by simp[Lp.has]at hr,by simp⟩;refine hall _ λo ho=>?_;obtain⟨o0,ho0,rfl⟩:=qX.1 ho;have hc:=(qV.1 hchk) o0 ho0;simp only[Vk,qI,decide_eq_true_eq]at hc;obtain⟨⟨⟨⟨⟨c1,c2⟩,c3⟩,c4⟩,c5⟩,c6⟩:=hc;obtain⟨e1,e2⟩:=Lx c6;have hi:∀i <6,i≠0→Fj (EI (LX o0)) i≠0:=by
  intro i hi hz;have:=(qV.1 c5) i (qj.2 hi);simpa[hz]using this
 have hr:=Ov (LX o0) o0.h (.cells (Hf::bs.map bv)) (ZX _ _) c1 c4 hi;simp only[Rg]at e1 e2;rw[e2]at hr;refine Ou (K:=λs2=>Q .normal ⟨Bm s2.e [1,3,4],s2.h⟩) (LX o0) ?_ ?_ ?_
 ·simpa[c1,Lp.ins]using c2
 ·simp only[M6,qV,Lp.ins]at c3 ⊢;intro r hr;rcases rn hr with hr|rfl
  ·exact c3 r hr
  ·rfl
 ·simp only[Lp.ins];rw[hr,e1];exact hQ
def E4 (b:Bool):Int:=if b then 1 else 0
def Ce (x:Ivl):List Int:=Ah [x.ln,x.ld,x.hn,x.hd,E4 x.lo,E4 x.ho,E4 x.li,E4 x.hi]
def C7 (f:F):List Int:=AN f.op++(AN f.n++(AN f.ins.length++(f.ins.flatMap Ce++AN f.kids.length)))
def By (f:F):List Int:=f.nodes.flatMap C7
theorem Wo (b:Bool):PX 295 [.bool b] [.int .i64 (E4 b)]:=by
 refine BU 295 ?_;cases b<;>simp[At 295,awp,AA 295 0,AA 295 1,AA 295 2,AA 295 3,AX 295,AV,E4]
theorem O8 (b:Bool):PX 339 [.bool b] [.int .i64 (E4 b)]:=by
 refine BU 339 ?_;cases b<;>simp[At 339,awp,AA 339 0,AA 339 1,AA 339 2,AA 339 3,AX 339,AV,E4]
theorem Cu:∀(xs:List Int),(∀x∈xs,0≤x∧x <256)→FJ (xs.map (V.int .u8))=some (xs.map λn=>UInt8.ofNat n.toNat)
 |[],_=>rfl
 |x::xs,h=>by
  have:=Cu xs λy hy=>h y (by simp[hy]);simp only[qR,FJ];rw[if_pos (h x (by simp)),this];rfl
theorem cP (xs:List Int) (hx:∀x∈xs,0≤x∧x <256) (hb:xs.length≤2^40) (h:List Row) (r:Nat) (ys:List Int) (hr:h[r]?=some (wr ys)) (hl:ys.length≤2^45):FX 99 [.ref r 0,.v (AH .u8 xs)] h [] (h.set r (wr (ys++AY xs))):=by
 refine Fn 99 ?_;obtain⟨b,hb1,hb2⟩:∃b:ByteArray,FJ (xs.map (V.int .u8))=some b.data.toList∧CS b=xs:=by
  refine⟨⟨(xs.map λn=>UInt8.ofNat n.toNat).toArray⟩,by rw[Cu xs hx],?_⟩;simp only[CS,uL];conv=>rhs;rw[←List.map_id xs]
  refine uM λn hn=>?_;obtain⟨h1,h2⟩:=hx n hn;simp only[Function.comp,id];rw[UInt8.toNat_ofNat_of_lt' (by simp[UInt8.size];omega)];omega
 have hsz:b.size=xs.length:=by rw[←P9,hb2]
 simp[At 99,awp,AA 99 0,AX 99,Ab,AH,hb1];have hp:=lM b (by omega) h r ys hr hl;rw[hb2]at hp;exact⟨_,hp⟩
theorem eO (l:List Int) (hi:∀n∈l,i64 n) (hb:l.length≤2^40):PX 107 [AH .i64 l] [AH .u8 (Ah l)]:=by
 refine BU 107 ?_;have w1:IntKind.u64.wrap (l.length:Int)=l.length:=BM (by omega) (by omega);simp only[At 107,AE,AU,AG,AA 107 0,AA 107 1,AA 107 2,AV];simp[AH,w1];refine⟨_,_,(Sn l.length ⟨by omega,by omega⟩ []),?_⟩;have hu:=Aw l.length;simp;refine AM l.length (λk=>⟨[(0,.v (AH .i64 l)),(3,.own 5 1 ((CY l.length++(l.take k).flatMap AN).map (.int .u8))),(4,.v (.int .i64 k))],[]⟩) (by simp[AH]) ?_;intro k hk;simp only[Zw,BA 107 0,AA 107 3];simp[AH];by_cases h1:k <l.length
 ·have hx:l[k]?=some l[k]:=qH h1;have hw:=Bo k;rw[if_pos (by omega),AB];simp only[AA 107 4,AA 107 5];simp[hx];refine⟨_,_,(Fl l[k] (hi _ (rl h1)) []),?_⟩;have hf:=Au (l.take k);have he:=AO l[k];have ht:(l.take k).length=k:=by simp;omega
  have hroom:AK ((CY l.length).length+((l.take k).flatMap AN).length+(AN l[k]).length) 1=true:=by simp[AK,-List.length_flatMap];omega
  simp[hroom,h1,hw,-List.length_flatMap];rw[Av h1];simp
 ·have:k=l.length:=by omega
  subst this;rw[if_neg (by omega),AJ];simp[AD,AA 107 6,AX 107,Ah]
theorem SQ (b:Bool):i64 (E4 b):=by cases b<;>(unfold i64 E4;simp)
theorem jb (x:Ivl) (hx:x.ok):PX 325 [x.V] [AH .u8 (Ce x)]:=by
 refine BU 325 ?_;have hp:=eO [x.ln,x.ld,x.hn,x.hd,E4 x.lo,E4 x.ho,E4 x.li,E4 x.hi] (by
  intro n hn;simp at hn;rcases hn with rfl|rfl|rfl|rfl|rfl|rfl|rfl|rfl
  ·exact hx.1
  ·exact hx.2.1
  ·exact hx.2.2.1
  ·exact hx.2.2.2
  all_goals exact SQ _) (by simp)
 have e:Ah [x.ln,x.ld,x.hn,x.hd,E4 x.lo,E4 x.ho,E4 x.li,E4 x.hi]=Ce x:=rfl;rw[e]at hp;generalize Ce x=bs at*;have ha:=O8 x.lo;have hb:=O8 x.ho;have hc:=O8 x.li;have hd:=O8 x.hi;obtain⟨ln,ld,hn,hd',lo,ho,li,hi⟩:=x;rw[At 325];simp only[AE,AG,AA 325 0,AV];simp[Ivl.V,AW,AA 325 1];refine⟨_,_,⟨rfl,rfl⟩,_,ha,?_⟩;simp;refine⟨_,_,⟨rfl,rfl⟩,_,hb,?_⟩;simp;refine⟨_,_,⟨rfl,rfl⟩,_,hc,?_⟩;simp;refine⟨_,_,⟨rfl,rfl⟩,_,hd,?_⟩;simp;simp[AH]at hp;refine⟨_,_,⟨rfl,rfl⟩,_,hp,?_⟩;simp[AD,AX 325,AH]
theorem XW (op n:Int) (ins:List Ivl) (kids:List F):By (.mk op n ins kids)=C7 (.mk op n ins kids)++kids.flatMap By:=by
 unfold By;rw[F.nodes_eq,qN,List.flatMap_assoc]
theorem Du {α:Type} (l:List α) (f:α→List Int) (k:Nat):((l.take k).flatMap f).length≤(l.flatMap f).length:=by
 have:=congrArg (λl=>(List.flatMap f l).length) (rJ k l);simp only[rP,qG]at this;omega
theorem FH {α:Type} {l:List α} {f:α→List Int} {x:α} (h:x∈l):(f x).length≤(l.flatMap f).length:=by
 induction l with
 |nil=>cases h
 |cons y l ih=>
  rw[qN,qG];cases h with
  |head=>omega
  |tail _ h=>have:=ih h;omega
theorem fK (op n:Int) (ins:List Ivl) (kids:List F) (hins:∀x∈ins,x.ok) (hil:ins.length≤2^40) (room:∀m:Nat,m≤2^46→AK m 1=true) (pre:List Int) (hb:pre.length+(ins.flatMap Ce).length≤2^46):
  awp Tryz.prog An (.loop (lG 297 0)) (λe s=>e= .exit 0∧s=⟨[(1,.ref 0 0),(3,.own 5 1 ((pre++ins.flatMap Ce).map (.int .u8))),(4,.v (.int .i64 ins.length)),(23,.v (.bool false))],[.cells (F.mk op n ins kids).cells]⟩)
   ⟨[(1,.ref 0 0),(3,.own 5 1 (pre.map (.int .u8))),(4,.v (.int .i64 0))],[.cells (F.mk op n ins kids).cells]⟩:=by
 refine AM ins.length (λk=>⟨[(1,.ref 0 0),(3,.own 5 1 ((pre++(ins.take k).flatMap Ce).map (.int .u8))),(4,.v (.int .i64 k))],[.cells (F.mk op n ins kids).cells]⟩) (by simp) ?_;intro k hk;simp only[Zw,BA 297 0,AA 297 4,F.cells,F.op,F.n,F.ins,F.kids];simp;by_cases hlt:k <ins.length
 ·obtain⟨x,hx⟩:∃x,ins[k]?=some x:=⟨_,qH hlt⟩;have hxm:=qJ hx;have hxe:ins[k]=x:=(qK.1 hx).2;have hw:=Bo k;have p1:=(jb x (hins x hxm)).fsp;have hle:=Du ins Ce (k+1);rw[Av hlt,hxe,qG]at hle;rw[if_pos (by omega),AB];simp only[AA 297 5,AA 297 6];simp[Ivl.V,AH]at p1;simp[hx,Ivl.V];refine⟨_,_,p1 _,?_⟩;simp[hw,hlt,-List.length_flatMap,room _ (show pre.length+((ins.take k).flatMap Ce).length+(Ce x).length≤2^46 by omega)];rw[Av hlt,hxe];simp
 ·have:k=ins.length:=by omega
  subst this;rw[if_neg (by omega),AJ];simp
theorem fJ (op n:Int) (ins:List Ivl) (kids:List F) (hp:∀x∈kids,∀h,FX 297 [.v x.V] h [.v (AH .u8 (By x))] h) (hkl:kids.length≤2^40) (room:∀m:Nat,m≤2^46→AK m 1=true) (pre:List Int) (hb:pre.length+(kids.flatMap By).length≤2^46):
  awp Tryz.prog An (.loop (lG 297 1)) (λe s=>e= .exit 2∧s=⟨[(1,.ref 0 0),(3,.own 5 1 ((pre++kids.flatMap By).map (.int .u8))),(5,.v (.int .i64 kids.length)),(44,.v (.bool false))],[.cells (F.mk op n ins kids).cells]⟩)
   ⟨[(1,.ref 0 0),(3,.own 5 1 (pre.map (.int .u8))),(5,.v (.int .i64 0))],[.cells (F.mk op n ins kids).cells]⟩:=by
 refine AM kids.length (λk=>⟨[(1,.ref 0 0),(3,.own 5 1 ((pre++(kids.take k).flatMap By).map (.int .u8))),(5,.v (.int .i64 k))],[.cells (F.mk op n ins kids).cells]⟩) (by simp) ?_;intro k hk;simp only[Zw,BA 297 1,AA 297 9,F.cells,F.op,F.n,F.ins,F.kids];simp;by_cases hlt:k <kids.length
 ·obtain⟨x,hx⟩:∃x,kids[k]?=some x:=⟨_,qH hlt⟩;have hxm:=qJ hx;have hxe:kids[k]=x:=(qK.1 hx).2;have hw:=Bo k;have p1:=hp x hxm;have hle:=Du kids By (k+1);rw[Av hlt,hxe,qG]at hle;have e:(kids.take (k+1)).flatMap By=(kids.take k).flatMap By++By x:=by rw[Av hlt,hxe]
  generalize By x=bs at*;obtain⟨xo,xn,xi,xk⟩:=x;rw[if_pos (by omega),AB];simp only[AA 297 10,AA 297 11];simp[F.V_eq,AH]at p1;simp[hx,F.V_eq];refine⟨_,_,p1 _,?_⟩;simp[hw,hlt,-List.length_flatMap,room _ (show pre.length+((kids.take k).flatMap By).length+bs.length≤2^46 by omega),e]
 ·have:k=kids.length:=by omega
  subst this;rw[if_neg (by omega),AJ];simp
theorem jo:∀f:F,f.ok→(By f).length≤2^45→PX 297 [f.V] [AH .u8 (By f)]:=by
 refine F.ind λop n ins kids ih hok hb=>?_;refine BU 297 ?_;have h1:=F.ok1_self hok;have hsz:=hok.2;rw[F.size_eq]at hsz;have hkl:=F.kids_len kids;rw[XW]at hb ⊢;simp only[C7,F.op,F.n,F.ins,F.kids,F.ok1]at*;have il:i64 (ins.length:Int):=by unfold i64;omega
 have kl:i64 (kids.length:Int):=by unfold i64;omega
 have q1:=AO op;have q2:=AO n;have q3:=AO ins.length;have q4:=AO kids.length;simp only[qG]at hb;have room:∀m:Nat,m≤2^46→AK m 1=true:=by intro m hm;simp[AK];omega
 simp only[At 297,AE,AG,CO,AU,AA 297 0,AA 297 1,AV];simp[F.V_eq];refine⟨_,_,Fl op h1.1 _,⟨[],rfl⟩,_,_,Fl n h1.2.1 _,⟨[],by simp⟩,?_⟩;simp[room _ (show (AN op).length+(AN n).length≤2^46 by omega)];refine⟨_,.inl rfl,?_⟩;simp[AA 297 2];refine⟨_,_,Fl ins.length il _,?_⟩;simp[room _ (show (AN op).length+(AN n).length+(AN ins.length).length≤2^46 by omega),AA 297 3];have hl:=fK op n ins kids h1.2.2.1 h1.2.2.2 room (AN op++(AN n++AN ins.length)) (by simp only[qG];omega);simp[F.cells,F.op,F.n,F.ins,F.kids]at hl;refine Ei hl ?_;simp[AA 297 7];refine⟨_,_,Fl kids.length kl _,?_⟩;simp[-List.length_flatMap,room _ (show (AN op).length+((AN n).length+((AN ins.length).length+(ins.flatMap Ce).length))+(AN kids.length).length≤2^46 by omega),AA 297 8];have hl2:=fJ op n ins kids (λx hx h=>(ih x hx (F.ok_kid hok hx) (by have:=FH (f:=By) hx;omega)).fsp h) (by omega) room (AN op++(AN n++(AN ins.length++(ins.flatMap Ce++AN kids.length)))) (by simp only[qG];omega);simp[F.cells,F.op,F.n,F.ins,F.kids]at hl2;refine Ei hl2 ?_;simp[AA 297 12,AD,AX 297,AH]
end Go.Va
