/- Laws that ExtractAnswers leans on, part 8. No condition of its own. -/
import Derived.Test.YtopldfpkgbkomaaGreatDoorL07
set_option linter.all false
set_option maxRecDepth 100000
set_option maxHeartbeats 4000000
noncomputable section
namespace Go.Va
open Go.Proofs
theorem dM (f:F) (h:List Row):FX 68 [.v f.V] h [.func 147 [.ref h.length 0]] (h++[.cells f.cells]):=by
 refine Dh 68 ?_;obtain⟨op,n,ins,kids⟩:=f;simp[Ai 68,awp,AA 68 0,AA 68 1,AW 68,AQ,F.V_eq,F.cells,F.op,F.n,F.ins,F.kids,D.vs?,D.v?]
theorem Uv (f:F) (hok:f.ok) (r q:Nat) (X:List Row) (b:Bool) (X':List Row) (hr:RunY Tryz.prog Ah r (f.nodes.map F.V) X b X') (hq:X[q]?=some (.cells f.cells)):
  ∃J,FX 147 [.yld r,.ref q 0] X [] (X'++J):=by
 obtain⟨J',hp⟩:=jR r X.length (X.length+1) f hok X b X' [.cells [.yld r],.cells [.func 148 [.ref X.length 0,.ref (X.length+1) 0]]] 0 1 rfl rfl hr rfl rfl;refine⟨[.cells [.yld r],.cells [.func 148 [.ref X.length 0,.ref (X.length+1) 0]]]++J',Dh 147 ?_⟩;obtain⟨op,n,ins,kids⟩:=f;have hq2:=AV [.cells [.yld r],.cells [.func 148 [.ref X.length 0,.ref (X.length+1) 0]]] hq;simp only[F.cells,F.op,F.n,F.ins,F.kids,F.V_eq]at*;simp only[Ai 147,AE,AF,AA 147 0,AA 147 1,AA 147 2,AA 147 3,AQ];simp[AO,D.v?]
 try simp at hq2
 simp[hq2];exact⟨⟨_,hp⟩,rfl⟩
theorem kT (A B:Row) (e0:CB) (he:AG e0 3= .ref 1 0):∀(ns:List V) (k:Nat),k+ns.length≤2^41→
  RunY Tryz.prog Ah 3 ns [A,.cells [.v (.int .i64 k)],B,Au Tryz.prog Ah .ready e0 [6] (lG 142 0) (lG 142 1000)] true [A,.cells [.v (.int .i64 (k+ns.length:Nat))],B,Au Tryz.prog Ah .ready e0 [6] (lG 142 0) (lG 142 1000)]:=by
 intro ns;induction ns with
 |nil=>intro k _;exact⟨rfl,rfl⟩
 |cons n ns ih=>
  intro k hk;simp only[oj]at hk;refine⟨true,[A,.cells [.v (.int .i64 (k+1:Nat))],B,Au Tryz.prog Ah .ready e0 [6] (lG 142 0) (lG 142 1000)],rfl,λJ=>⟨[],?_⟩,?_⟩
  ·refine Cm (e0:=e0) (ps:=[6]) (asg:=(lG 142 0)) (body:=(lG 142 1000)) (by simp) rfl ?_;have hw:=Bb k;simp only[Fh,A8 142 0,A8 142 1000,AF,AM,AD,AA 142 3];simp[he,hw,AO,CJ]
  ·have:=ih (k+1) (by omega);have e:k+1+ns.length=k+(n::ns).length:=by simp;omega
   rw[e]at this;exact this
theorem jW (f:F) (hok:f.ok):PX 142 [f.V] [.int .i64 f.size]:=by
 refine BJ 142 ?_;have hsz:=hok.2;have h68:=dM f;have hr:=kT (.cells f.cells) (.cells f.cells) (Hn [(3,.ref 1 0),(5,.func 147 [.ref 2 0])]) rfl (f.nodes.map F.V) 0 (by simp;unfold F.size at hsz;omega);obtain⟨J,hp⟩:=Uv f hok 3 2 _ _ _ hr rfl;have e1:(f.nodes.map F.V).length=f.size:=by simp[F.size]
 rw[e1,px]at hp;generalize f.size=sz at*;obtain⟨op,n,ins,kids⟩:=f;simp only[F.cells,F.op,F.n,F.ins,F.kids,F.V_eq]at*;simp only[Ai 142,AE,AF,AM,AA 142 0,AA 142 1,AA 142 2,AX];simp[AO];refine⟨_,_,h68 _,?_⟩;simp;refine Ct 147 [.ref 2 0] [] _ _ .ready rfl rfl hp rfl ?_;simp[CK,AA 142 4,AB,AW 142]
theorem mM (A B:Row) (e0:CB) (he:AG e0 2= .ref 1 0) (g:F) (hg:g.ok1) (J:List Row):∃J2,Nk Tryz.prog Ah 3 [.v g.V] ([A,.cells [.v (.int .i64 0)],B,Au Tryz.prog Ah .ready e0 [14] (lG 66 0) (lG 66 1000)]++J) (Az g)
   ((if Az g then [A,.cells [.v (.int .i64 0)],B,Au Tryz.prog Ah .ready e0 [14] (lG 66 0) (lG 66 1000)] else [A,.cells [.v (.int .i64 1)],B,Au Tryz.prog Ah (.done none) e0 [14] (lG 66 0) (lG 66 1000)])++(J++J2)):=by
 refine⟨[.cells g.cells],Cm (e0:=e0) (ps:=[14]) (asg:=(lG 66 0)) (body:=(lG 66 1000)) (by simp) rfl ?_⟩;have hp:=(jU g hg).fsp;generalize Az g=b at*;obtain⟨op,n,ins,kids⟩:=g;simp only[F.cells,F.op,F.n,F.ins,F.kids,F.V_eq]at*;simp only[Zw,Fh,A8 66 0,A8 66 1000,AA 66 4,AA 66 5];have e:J.length+1+1+1+1=J.length+4:=by omega
 simp[he,AO];simp at hp;refine⟨_,_,hp _,?_⟩;cases b with
 |true=>simp[AD,CJ]
 |false=>simp[AB,AA 66 6,AO,CJ]
theorem nf (A B:Row) (e0:CB) (he:AG e0 2= .ref 1 0):∀(ns:List F),(∀g∈ns,g.ok1)→
  RunY Tryz.prog Ah 3 (ns.map F.V) [A,.cells [.v (.int .i64 0)],B,Au Tryz.prog Ah .ready e0 [14] (lG 66 0) (lG 66 1000)] (ns.all Az)
   (if ns.all Az then [A,.cells [.v (.int .i64 0)],B,Au Tryz.prog Ah .ready e0 [14] (lG 66 0) (lG 66 1000)] else [A,.cells [.v (.int .i64 1)],B,Au Tryz.prog Ah (.done none) e0 [14] (lG 66 0) (lG 66 1000)]):=by
 intro ns;induction ns with
 |nil=>intro _;exact⟨rfl,rfl⟩
 |cons n ns ih=>
  intro hk;have hy:=mM A B e0 he n (hk n (by simp));refine⟨Az n,_,?_,hy,?_⟩
  ·split<;>rfl
  ·cases hf:Az n with
   |true=>
    simp only[if_true,qU,hf,pB];exact ih λg hg=>hk g (by simp[hg])
   |false=>simp[hf]
theorem ZW (f:F) (hok:f.ok):PX 66 [f.V] [.int .i64 (BR f)]:=by
 refine BJ 66 ?_;obtain⟨R,hR⟩:∃R,BR f=R:=⟨_,rfl⟩;rw[hR];unfold BR at hR;have h1:=(jW f hok).fsp;have h2:=(jV f hok).fsp;have h68:=dM f;have hr:=nf (.cells f.cells) (.cells f.cells) (Hn [(2,.ref 1 0),(13,.func 147 [.ref 2 0])]) rfl f.nodes hok.1;obtain⟨J,hp⟩:=Uv f hok 3 2 _ _ _ hr rfl;generalize f.nodes.all Az=al at*;generalize f.size=sz at*;generalize f.depth=dp at*;obtain⟨op,n,ins,kids⟩:=f;simp only[F.cells,F.op,F.n,F.ins,F.kids,F.V_eq]at*;simp only[Zw,Ai 66,AA 66 0,AA 66 1,AX];simp at h1 h2 h68;simp;refine⟨_,_,h1 _,?_⟩;by_cases b1:96 <sz
 ·have b1':96 <(sz:Int):=by omega
  simp[b1]at hR;simp[b1',AB,AA 66 2,AW 66,AO,hR]
 ·have b1':¬96 <(sz:Int):=by omega
  simp[b1'];refine⟨_,_,h2 _,?_⟩;by_cases b2:8 <dp
  ·have b2':8 <(dp:Int):=by omega
   simp[b2]at hR;simp[b2',AB,AA 66 2,AW 66,AO,hR]
  ·have b2':¬8 <(dp:Int):=by omega
   simp[b1,b2]at hR;simp[b2',AD,AA 66 3];refine⟨_,_,h68 _,?_⟩;simp;cases al with
   |true=>
    simp at hR;refine Ct 147 [.ref 2 0] [] _ _ .ready rfl rfl hp rfl ?_;simp[CK,AB,AA 66 7,AW 66,AO,hR]
   |false=>
    simp at hR;refine Ct 147 [.ref 2 0] [] _ _ (.done none) rfl rfl hp rfl ?_;simp[CK,AW 66,hR]
def dK:PD:=λ_ _ _=>none
def Dc:List (List Int):=[[],[0],[0],[1,2],[],[4]]
theorem aL:∀ps∈Dc,PX 120 [.int .i64 6,AH .i64 ps] [.bool true]:=by
 intro ps hps;simp only[Dc,oO,o7,or_false]at hps;rcases hps with rfl|rfl|rfl|rfl|rfl|rfl
 all_goals exact Fm (Pr:=dK) (fuel:=100) O9 (λf args h x hx=>by cases hx) (by kernel_rfl)
theorem aK:∀ps∈Dc,PX 121 [AH .i64 ps] [.bool true]:=by
 intro ps hps;simp only[Dc,oO,o7,or_false]at hps;rcases hps with rfl|rfl|rfl|rfl|rfl|rfl
 all_goals exact Fm (Pr:=dK) (fuel:=100) O9 (λf args h x hx=>by cases hx) (by kernel_rfl)
theorem aJ:∀ps∈Dc,PX 122 [AH .i64 ps] [AH .i64 ps]:=by
 intro ps hps;simp only[Dc,oO,o7,or_false]at hps;rcases hps with rfl|rfl|rfl|rfl|rfl|rfl
 all_goals exact Fm (Pr:=dK) (fuel:=100) O9 (λf args h x hx=>by cases hx) (by kernel_rfl)
abbrev bv (b:Bool):D:= .v (.bool b)
def G3:D:= .own 22 1 (Dc.map (AH .i64))
def ME (bs:List Bool):Row:= .cells (G3::bs.map bv)
def CI (bs dn op:List Bool):List Row:=[ME bs,.cells [.ref 0 0],.cells (dn.map bv),.cells (op.map bv),.cells [.sref 2 6],.cells [.sref 3 6],.cells [.func 211 [.ref 4 0,.ref 5 0,.ref 1 0,.ref 6 0]]]
def RO (i:Nat) (src:List Bool):Nat→List Bool→List Bool
 |0,bs=>bs
 |j+1,bs=>(RO i src j bs).set (i*64+j) ((RO i src j bs).getD (i*64+j) false||src.getD j false)
theorem NM (i:Nat) (src:List Bool) (bs:List Bool):∀j,(RO i src j bs).length=bs.length
 |0=>rfl
 |j+1=>by rw[RO,qB,NM i src bs j]
def QG (i:Nat) (bs:List Bool) (p:Nat):List Bool:=RO i ((bs.drop (p*64)).take 64) 64 bs
theorem kL (i:Nat) (hi:i <6) (bs dn op src:List Bool) (hbs:bs.length=4096) (hs:src.length=64) (d41 d42 d43:D):
  awp Tryz.prog Ah (.loop (lG 211 1)) (λe s=>e= .exit 2∧AG s.e 0= .v (.int .i64 i)∧AG s.e 1= .ref 4 0∧AG s.e 3= .ref 1 0∧AG s.e 4= .ref 6 0∧AG s.e 41=d41∧AG s.e 42=d42∧AG s.e 43=d43∧s.h=CI (RO i src 64 bs) dn op)
   ⟨[(0,.v (.int .i64 i)),(1,.ref 4 0),(3,.ref 1 0),(4,.ref 6 0),(41,d41),(42,d42),(43,d43),(56,.agg (src.map bv)),(57,.v (.int .i64 0))],CI bs dn op⟩:=by
 refine AN 64 (λj=>⟨[(0,.v (.int .i64 i)),(1,.ref 4 0),(3,.ref 1 0),(4,.ref 6 0),(41,d41),(42,d42),(43,d43),(56,.agg (src.map bv)),(57,.v (.int .i64 j))],CI (RO i src j bs) dn op⟩) (by simp[RO]) ?_;intro j hj;simp only[Zw,A8 211 1,AA 211 11];simp;by_cases hlt:j <64
 ·have hw:=Bb j;have hnext:RO i src (j+1) bs=(RO i src j bs).set (i*64+j) ((RO i src j bs).getD (i*64+j) false||src.getD j false):=rfl
  have hbl:=NM i src bs j;rw[hnext];generalize RO i src j bs=B at*;obtain⟨b,hb⟩:∃b,B[i*64+j]?=some b:=⟨_,oI (by omega)⟩;obtain⟨c,hc⟩:∃c,src[j]?=some c:=⟨_,oI (by omega)⟩;have hbD:B.getD (i*64+j) false=b:=by rw[sT,hb];rfl
  have hcD:src.getD j false=c:=by rw[sT,hc];rfl
  rw[hbD,hcD];obtain⟨ds,hds⟩:∃ds,G3::B.map bv=ds:=⟨_,rfl⟩;have hlen:ds.length=4097:=by rw[←hds];simp;omega
  have hld:ds[1+i*64+j]?=some (bv b):=by rw[←hds,show 1+i*64+j=(i*64+j)+1 by omega];simp[hb]
  have hput:∀v,AO ds (1+i*64+j) [bv v]=G3::(B.set (i*64+j) v).map bv:=by
   intro v;rw[←hds,show 1+i*64+j=(i*64+j)+1 by omega,AO];simp only[ri,rz,List.drop_succ_cons,List.map_set,pl];rw[rx,if_pos (by simp;omega)];simp
  have hlt2:(i:Int) <64:=by omega
  have hj2:(j:Int) <64:=by omega
  have hle:1+i*64+j+1≤4097:=by omega
  rw[if_pos (by omega),AD];simp only[AA 211 12,CI,ME,hds];have hj63:j≤63:=by omega
  simp[hs,hc,hj63,AS,AA 211 13];simp[hlen,hld,hlt2,hj2,hlt,hle];cases b with
  |false=>
   simp[hput,AA 211 14,hw]
  |true=>
   simp[hput,AA 211 14,hw]
 ·have:j=64:=by omega
  subst this;rw[if_neg (by omega),AJ];simp
section
variable {k:Nat}
theorem PM {α:Type} {l:List α} {x:α} (h:l[k]?=some x):l.take (k+1)=l.take k++[x]:=by rw[oW,h];rfl
def FN (i:Nat):List Bool:=(List.range 6).map λj=>decide (j <i)
def M4 (i:Nat):List Int:=Dc.getD i []
def KB (i:Nat) (bs:List Bool):List Bool:=(M4 i).foldl (λb p=>QG i b p.toNat) (bs.set (i*64+i) true)
theorem US (i:Nat) (bs:List Bool) (p:Nat):(QG i bs p).length=bs.length:=NM _ _ _ _
theorem LP (i:Nat):∀(ps:List Int) (bs:List Bool),(ps.foldl (λb p=>QG i b p.toNat) bs).length=bs.length
 |[],_=>rfl
 |p::ps,bs=>by rw[qj,LP i ps,US]
theorem RX (i:Nat) (bs:List Bool):(KB i bs).length=bs.length:=by rw[KB,LP,qB]
theorem QI (i:Nat):(FN i).length=6:=by simp[FN]
theorem QJ (i p:Nat) (hp:p <6):(FN i)[p]?=some (decide (p <i)):=by simp[FN,hp]
theorem UU (i:Nat) (hi:i <6):(FN i).set i true=FN (i+1):=by
 have:∀i <6,(FN i).set i true=FN (i+1):=by decide
 exact this i hi
theorem QS (l:List Bool) (i:Nat) (v:Bool) (hi:i <l.length):AO (l.map bv) i [bv v]=(l.set i v).map bv:=by
 rw[AO,List.map_set,rx,if_pos (by simpa using hi)];simp
theorem Z1 (bs op:List Bool) (i p:Nat) (hp:p <i) (hi:i≤6):FX 211 [.v (.int .i64 p),.ref 4 0,.ref 5 0,.ref 1 0,.ref 6 0] (CI bs (FN i) op) [.v (.bool true)] (CI bs (FN i) op):=by
 refine Dh 211 ?_;have hl:=QI i;have hp6:p <6:=by omega
 have hd:(FN i)[p]?=some true:=by rw[QJ i p hp6];simp[hp]
 have hp5:p≤5:=by omega
 have hp6':(p:Int) <6:=by omega
 generalize FN i=dn at*;have hde:∀h,dn[p]'h=true:=λh=>(oM.1 hd).2;simp only[Ai 211,AE,AF,AK,AA 211 0,AA 211 1,AQ,CI];simp[hp6,hp6',hp5,hde,hl,AA 211 2,AB,AW 211]
theorem bU (i:Nat) (hi:i <6) (ps:List Int) (dn dn' B0:List Bool) (hB0:B0.length=4096) (hps:∀p∈ps,0≤p∧p.toNat <i) (hpn:ps.length≤2)
  (ha:∀bs (p:Nat),p <i→FX 211 [.v (.int .i64 p),.ref 4 0,.ref 5 0,.ref 1 0,.ref 6 0] (CI bs dn dn') [.v (.bool true)] (CI bs dn dn')):
  awp Tryz.prog Ah (.loop (lG 211 0)) (λe s=>e= .exit 0∧AG s.e 0= .v (.int .i64 i)∧AG s.e 1= .ref 4 0∧s.h=CI (ps.foldl (λb p=>QG i b p.toNat) B0) dn dn')
   ⟨[(0,.v (.int .i64 i)),(1,.ref 4 0),(3,.ref 1 0),(4,.ref 6 0),(41,.v (AH .i64 ps)),(42,.v (.int .i64 ps.length)),(43,.v (.int .i64 0))],CI B0 dn dn'⟩:=by
 have fl:∀k,((ps.take k).foldl (λb p=>QG i b p.toNat) B0).length=4096:=by
  intro k;rw[LP,hB0]
 refine AN ps.length (λk=>⟨[(0,.v (.int .i64 i)),(1,.ref 4 0),(3,.ref 1 0),(4,.ref 6 0),(41,.v (AH .i64 ps)),(42,.v (.int .i64 ps.length)),(43,.v (.int .i64 k))],CI ((ps.take k).foldl (λb p=>QG i b p.toNat) B0) dn dn'⟩) (by simp) ?_;intro k hk;have hBl:=fl k;simp only[Zw,A8 211 0,AA 211 6];simp[AH];by_cases hlt:k <ps.length
 ·obtain⟨p,hpk⟩:∃p,ps[k]?=some p:=⟨_,oI hlt⟩;have hw:=Bb k;obtain⟨hp0,hpi⟩:=hps p (oK hpk);obtain⟨q,rfl⟩:∃q:Nat,p=q:=⟨p.toNat,by omega⟩;have hqi:q <i:=by omega
  have hsuc:(ps.take (k+1)).foldl (λb p=>QG i b p.toNat) B0=QG i ((ps.take k).foldl (λb p=>QG i b p.toNat) B0) q:=by
   rw[PM hpk,qd,qj,List.foldl_nil,qT]
  rw[hsuc];generalize (ps.take k).foldl (λb p=>QG i b p.toNat) B0=B at*;have hc:=ha B q hqi;have hq64:(q:Int) <64:=by omega
  have hq63:q≤63:=by omega
  have hsl:((B.drop (q*64)).take 64).length=64:=by rw[ol,List.length_drop];omega
  have q2:=kL i hi B dn dn' ((B.drop (q*64)).take 64) hBl hsl (.v (AH .i64 ps)) (.v (.int .i64 ps.length)) (.v (.int .i64 k));have hup:QG i B q=RO i ((B.drop (q*64)).take 64) 64 B:=by rw[QG]
  rw[←hup]at q2;generalize QG i B q=NB at*;clear hup;have hld:List.take 64 (List.drop (q*64) (List.map bv B))=((B.drop (q*64)).take 64).map bv:=by rw[o8,qQ]
  have hcp:∀l:List Bool,List.map (D.copy ∘ bv) l=l.map bv:=λl=>by simp[rj,D.copy]
  have hle:1+q*64≤4033:=by omega
  have hdr:∀(x:D) (l:List D),List.drop (1+q*64) (x::l)=List.drop (q*64) l:=λx l=>by rw[Nat.add_comm];rfl
  rw[if_pos (by omega),AD];simp only[AA 211 7];simp[hpk,AA 211 8,CI];simp only[CI]at hc;refine⟨_,_,hc,?_⟩;simp[AD,AA 211 10,ME,hq64,hBl,hle,hdr,hcp];simp only[CI,ME,AH]at q2;simp only[o8,qQ]at q2;refine Ad _ ?_ q2;rintro e ⟨se,sh⟩ ⟨rfl,f0,f1,f3,f4,f41,f42,f43,hh⟩;simp only at f0 f1 f3 f4 f41 f42 f43 hh;subst hh;simp[AA 211 15,f0,f1,f3,f4,f41,f42,f43,hw,hlt]
 ·have:k=ps.length:=by omega
  subst this;rw[if_neg (by omega),AJ];simp
theorem iY (bs:List Bool) (i:Nat) (hi:i <6) (hbs:bs.length=4096):FX 211 [.v (.int .i64 i),.ref 4 0,.ref 5 0,.ref 1 0,.ref 6 0] (CI bs (FN i) (FN i)) [.v (.bool true)] (CI (KB i bs) (FN (i+1)) (FN (i+1))):=by
 refine Dh 211 ?_;have hl:=QI i;have hd:(FN i)[i]?=some false:=by rw[QJ i i hi];simp
 have hi5:i≤5:=by omega
 have hi6':(i:Int) <6:=by omega
 have hset:=QS (FN i) i true (by omega);rw[UU i hi]at hset;have ha:=λbs p hp=>Z1 bs (FN (i+1)) i p hp (by omega);have hpar:Dc[i]?=some (M4 i):=by
  have:∀i <6,Dc[i]?=some (M4 i):=by decide
  exact this i hi
 have hps:∀p∈M4 i,0≤p∧p.toNat <i:=by
  have:∀i <6,∀p∈M4 i,0≤p∧p.toNat <i:=by decide
  exact this i hi
 have hpn:(M4 i).length≤2:=by
  have:∀i <6,(M4 i).length≤2:=by decide
  exact this i hi
 have hres:KB i bs=(M4 i).foldl (λb p=>QG i b p.toNat) (bs.set (i*64+i) true):=rfl;generalize KB i bs=FB at*;generalize M4 i=ps at*;generalize FN (i+1)=dn' at*;generalize FN i=dn at*;have r0:AO (G3::bs.map bv) (1+i*64+i) [bv true]=G3::(bs.set (i*64+i) true).map bv:=by
  rw[show 1+i*64+i=(i*64+i)+1 by omega,AO];have:=QS bs (i*64+i) true (by omega);rw[AO]at this;simpa using this
 have hi64:i≤63:=by omega
 have hi64':(i:Int) <64:=by omega
 have hle:1+i*64+i+1≤bs.length+1:=by omega
 simp only[Ai 211,AE,AF,AK,AA 211 0,AA 211 1,AQ,CI];simp[hi5,hi6',hd,hl,AD,AA 211 3];simp[hset,AA 211 4,ME,hi64',r0,hle];have hpl:Dc.length=6:=rfl;simp[AA 211 5,G3,hpar,AH];have q:=bU i hi ps dn dn' (bs.set (i*64+i) true) (by rw[qB,hbs]) hps hpn ha;rw[←hres]at q;simp[CI,ME,G3,AH]at q;simp only[AM];refine Ad _ ?_ q;rintro e ⟨se,sh⟩ ⟨rfl,f0,f1,hh⟩;simp only at f0 f1 hh;subst hh;simp[AA 211 16,f0,f1,hi6',hi5,hl,hset,AA 211 17,AB,AW 211]
end
def Oz:AC:=match la 123 with| .seq _ (.seq a _)=>a|_=> .skip
def Wv:AC:=match la 123 with| .seq _ (.seq _ b)=>b|_=> .skip
theorem Vf:(gA 123)= .seq (.reg (oG 123 0) [1]) (.seq Oz Wv):=(Ai 123 :)
def SC:AT:=match Oz with| .regA _ _ _ t=>t|_=> .done
def cQ:List (List Nat):=match Oz with| .regA _ _ c _=>c|_=>[]
theorem T2:Oz= .regA (oG 123 1) [1,3,4] cQ SC:=rfl
def OC (rest:List D):Option (List St):=TW (ev Tb dK 4) [] (oG 123 1) SC ⟨[(1,.ref 1 0)],[.cells (G3::rest),.cells [.ref 0 0]]⟩
theorem aS (rest:List D):OC rest=(OC []).map (List.map λo=>⟨o.e,o.h.set 0 (.cells (G3::rest))⟩):=by kernel_rfl
def F6:Row:= .cells ((FN 0).map bv)
def YL:St:=⟨[(1,.ref 1 0),(3,.ref 4 0),(4,.ref 5 0)],[.cells [G3],.cells [.ref 0 0],F6,F6,.cells [.sref 2 6],.cells [.sref 3 6]]⟩
def K5 (o:St):List (Nat×Nat):=
 match AG o.e 3,AG o.e 4 with
 | .ref a _,.ref b _=>match o.h[a]?,o.h[b]? with
  |some (.cells [.sref u _]),some (.cells [.sref v _])=>[(a,4),(b,5),(u,2),(v,3)]
  |_,_=>[]
 |_,_=>[]
def To (o:St):Bool:=
 decide (o.h.length=6)&&K6 2 6 (K5 o)&&MQ o.h&&decide (DM (CC (K5 o)) 0=0)&&((List.range 6).all λi=>decide (i=0)|| !decide (DM (CC (K5 o)) i=0))&&
  Ol [1,3,4] (QO (K5 o) o) YL
theorem Ss:(match OC []with|some os=>os.all To|none=>false)=true:=by kernel_rfl
theorem XG (π:List (Nat×Nat)) (bs:List Bool):Row.ren π (.cells (G3::bs.map bv))= .cells (G3::bs.map bv):=by
 simp[Row.ren,Cf,G3,D.ren,rj]
theorem N4 (π:List (Nat×Nat)) (h:List Row) (X:Row) (hX:X.ren π=X) (hl:h.length=6) (h0:DM (CC π) 0=0) (hi:∀i <6,i≠0→DM (CC π) i≠0):Ay π (h.set 0 X)=(Ay π h).set 0 X:=by
 refine pe λi=>?_;simp only[Ay,qB,hl,oX];rcases om i 6 with hi6|hi6
 ·rw[qI hi6];by_cases hz:i=0
  ·subst hz;rw[pF (by simp)];simp only[o9,h0];rw[pF (by omega)];simp[hX]
  ·rw[ot (Ne.symm hz),oX,qI hi6];simp only[o9];rw[ot (Ne.symm (hi i hi6 hz))]
 ·rw[pN (by simpa using hi6),pN (by simpa using hi6)];rfl
theorem lW (bs:List Bool) (Q:AExit→St→Prop)
  (hQ:Q .normal ⟨[(1,.ref 1 0),(3,.ref 4 0),(4,.ref 5 0)],[ME bs,.cells [.ref 0 0],F6,F6,.cells [.sref 2 6],.cells [.sref 3 6]]⟩):
  awp Tryz.prog Ah Oz Q ⟨[(1,.ref 1 0)],[ME bs,.cells [.ref 0 0]]⟩:=by
 rw[T2,Bf];obtain⟨os,h0⟩:∃os,OC []=some os:=by
  have h:=Ss;cases ho:OC []with
  |none=>rw[ho]at h;cases h
  |some os=>exact⟨os,rfl⟩
 have hchk:=Ss;rw[h0]at hchk;have he:=aS (bs.map bv);rw[h0,o9]at he;obtain⟨-,hall⟩:=Jj (P:=Tryz.prog) (GL:=Ah) (Pu O9 (λf args h x hx=>by cases hx) 4) SC he ⟨λr hr=>by simp[Lp.has]at hr,by simp⟩;refine hall _ λo ho=>?_;obtain⟨o0,ho0,rfl⟩:=oP.1 ho;have hc:=(oY.1 hchk) o0 ho0;simp only[To,oJ,decide_eq_true_eq]at hc;obtain⟨⟨⟨⟨⟨c1,c2⟩,c3⟩,c4⟩,c5⟩,c6⟩:=hc;obtain⟨e1,e2⟩:=LV c6;have hi:∀i <6,i≠0→DM (CC (K5 o0)) i≠0:=by
  intro i hi hz;have:=(oY.1 c5) i (oy.2 hi);simpa[hz]using this
 have hr:=N4 (K5 o0) o0.h (.cells (G3::bs.map bv)) (XG _ _) c1 c4 hi;simp only[QO]at e1 e2;rw[e2]at hr;refine BH (K:=λs2=>Q .normal ⟨Bd s2.e [1,3,4],s2.h⟩) (K5 o0) ?_ ?_ ?_
 ·simpa[c1,Lp.ins]using c2
 ·simp only[MQ,oY,Lp.ins]at c3 ⊢;intro r hr;rcases pk hr with hr|rfl
  ·exact c3 r hr
  ·rfl
 ·simp only[Lp.ins];rw[hr,e1];exact hQ
def Ch:Nat→List Bool→List Bool
 |0,bs=>bs
 |i+1,bs=>KB i (Ch i bs)
theorem Ji (bs:List Bool):∀i,(Ch i bs).length=bs.length
 |0=>rfl
 |i+1=>by rw[Ch,RX,Ji bs i]
theorem T1:Wv=(.seq (.reg (oG 123 2) [1,3,4,5]) (.seq (.reg (oG 123 3) [1,5]) (.seq (.seq (.reg (oG 123 4) [5,24,25]) (.block 0 (.loop (lG 123 0)))) (.seq (.reg (oG 123 10) [2]) .ret)))):=rfl
theorem kV (bs:List Bool) (hbs:bs.length=4096):
  awp Tryz.prog Ah (.loop (lG 123 0)) (λe s=>e= .exit 0∧s.h=CI (Ch 6 bs) (FN 6) (FN 6))
   ⟨[(5,.ref 6 0),(24,.v (.int .i64 6)),(25,.v (.int .i64 0))],CI bs (FN 0) (FN 0)⟩:=by
 refine AN 6 (λi=>⟨[(5,.ref 6 0),(24,.v (.int .i64 6)),(25,.v (.int .i64 i))],CI (Ch i bs) (FN i) (FN i)⟩) (by simp[Ch]) ?_;intro i hi;simp only[Zw,A8 123 0,AA 123 5];simp;by_cases hlt:i <6
 ·have hw:=Bb i;have p1:=iY (Ch i bs) i hlt (by rw[Ji,hbs]);have hn:Ch (i+1) bs=KB i (Ch i bs):=rfl;rw[hn];generalize KB i (Ch i bs)=B2 at*;generalize Ch i bs=B at*;generalize FN (i+1)=t2 at*;generalize FN i=t1 at*;rw[if_pos (by omega),AD];simp only[AA 123 6];simp[AA 123 7,CI];simp only[CI]at p1;refine⟨_,_,p1,?_⟩;simp[AD,AA 123 9,hw];omega
 ·have:i=6:=by omega
  subst this;rw[if_neg (by omega),AJ];simp
theorem je (bs:List Bool) (hbs:bs.length=4096):FX 123 [.ref 0 0] [ME bs] [.v (.bool true)] (CI (Ch 6 bs) (FN 6) (FN 6)):=by
 refine Dh 123 ?_;have q:=kV bs hbs;generalize CI (Ch 6 bs) (FN 6) (FN 6)=HH at*;rw[Vf];simp only[AE,AF,AA 123 0,AQ];simp;refine lW bs _ ?_;rw[T1];simp only[AE,AF,AM,AA 123 2];simp[AA 123 3,AO,ME,G3];simp[AA 123 4,Dc];simp only[CI,ME,G3,F6]at q ⊢;refine Ad _ ?_ q;rintro e ⟨se,sh⟩ ⟨rfl,hh⟩;simp only at hh;subst hh;simp[AA 123 10,AB,AW 123]
def Fw (b:Bool):Int:=if b then 1 else 0
def Bv (x:Ivl):List Int:=A6 [x.ln,x.ld,x.hn,x.hd,Fw x.lo,Fw x.ho,Fw x.li,Fw x.hi]
def Cd (f:F):List Int:=AZ f.op++(AZ f.n++(AZ f.ins.length++(f.ins.flatMap Bv++AZ f.kids.length)))
def BS (f:F):List Int:=f.nodes.flatMap Cd
theorem Uo (b:Bool):PX 295 [.bool b] [.int .i64 (Fw b)]:=by
 refine BJ 295 ?_;cases b<;>simp[Ai 295,awp,AA 295 0,AA 295 1,AA 295 2,AA 295 3,AW 295,AX,Fw]
theorem OB (b:Bool):PX 339 [.bool b] [.int .i64 (Fw b)]:=by
 refine BJ 339 ?_;cases b<;>simp[Ai 339,awp,AA 339 0,AA 339 1,AA 339 2,AA 339 3,AW 339,AX,Fw]
theorem GR:∀(xs:List Int),(∀x∈xs,0≤x∧x <256)→Ex (xs.map (V.int .u8))=some (xs.map λn=>UInt8.ofNat n.toNat)
 |[],_=>rfl
 |x::xs,h=>by
  have:=GR xs λy hy=>h y (by simp[hy]);simp only[oV,Ex];rw[if_pos (h x (by simp)),this];rfl
theorem lq (xs:List Int) (hx:∀x∈xs,0≤x∧x <256) (hb:xs.length≤2^40) (h:List Row) (r:Nat) (ys:List Int) (hr:h[r]?=some (wr ys)) (hl:ys.length≤2^45):FX 99 [.ref r 0,.v (AH .u8 xs)] h [] (h.set r (wr (ys++BE xs))):=by
 refine Dh 99 ?_;obtain⟨b,hb1,hb2⟩:∃b:ByteArray,Ex (xs.map (V.int .u8))=some b.data.toList∧Ag b=xs:=by
  refine⟨⟨(xs.map λn=>UInt8.ofNat n.toNat).toArray⟩,by rw[GR xs hx],?_⟩;simp only[Ag,qF];conv=>rhs;rw[←List.map_id xs]
  refine rl λn hn=>?_;obtain⟨h1,h2⟩:=hx n hn;simp only[Function.comp,id];rw[UInt8.toNat_ofNat_of_lt' (by simp[UInt8.size];omega)];omega
 have hsz:b.size=xs.length:=by rw[←KI,hb2]
 simp[Ai 99,awp,AA 99 0,AW 99,AQ,AH,hb1];have hp:=io b (by omega) h r ys hr hl;rw[hb2]at hp;exact⟨_,hp⟩
theorem aO (l:List Int) (hi:∀n∈l,i64 n) (hb:l.length≤2^40):PX 107 [AH .i64 l] [AH .u8 (A6 l)]:=by
 refine BJ 107 ?_;have w1:IntKind.u64.wrap (l.length:Int)=l.length:=A9 (by omega) (by omega);simp only[Ai 107,AE,AM,AF,AA 107 0,AA 107 1,AA 107 2,AX];simp[AH,w1];refine⟨_,_,(Us l.length ⟨by omega,by omega⟩ []),?_⟩;have hu:=CV l.length;simp;refine AN l.length (λk=>⟨[(0,.v (AH .i64 l)),(3,.own 5 1 ((E4 l.length++(l.take k).flatMap AZ).map (.int .u8))),(4,.v (.int .i64 k))],[]⟩) (by simp[AH]) ?_;intro k hk;simp only[Zw,A8 107 0,AA 107 3];simp[AH];by_cases h1:k <l.length
 ·have hx:l[k]?=some l[k]:=oI h1;have hw:=Bb k;rw[if_pos (by omega),AD];simp only[AA 107 4,AA 107 5];simp[hx];refine⟨_,_,(M5 l[k] (hi _ (pR h1)) []),?_⟩;have hf:=B8 (l.take k);have he:=Ab l[k];have ht:(l.take k).length=k:=by simp;omega
  have hroom:AU ((E4 l.length).length+((l.take k).flatMap AZ).length+(AZ l[k]).length) 1=true:=by simp[AU,-List.length_flatMap];omega
  simp[hroom,h1,hw,-List.length_flatMap];rw[BT h1];simp
 ·have:k=l.length:=by omega
  subst this;rw[if_neg (by omega),AJ];simp[AB,AA 107 6,AW 107,A6]
theorem Qv (b:Bool):i64 (Fw b):=by cases b<;>(unfold i64 Fw;simp)
theorem fC (x:Ivl) (hx:x.ok):PX 325 [x.V] [AH .u8 (Bv x)]:=by
 refine BJ 325 ?_;have hp:=aO [x.ln,x.ld,x.hn,x.hd,Fw x.lo,Fw x.ho,Fw x.li,Fw x.hi] (by
  intro n hn;simp at hn;rcases hn with rfl|rfl|rfl|rfl|rfl|rfl|rfl|rfl
  ·exact hx.1
  ·exact hx.2.1
  ·exact hx.2.2.1
  ·exact hx.2.2.2
  all_goals exact Qv _) (by simp)
 have e:A6 [x.ln,x.ld,x.hn,x.hd,Fw x.lo,Fw x.ho,Fw x.li,Fw x.hi]=Bv x:=rfl;rw[e]at hp;generalize Bv x=bs at*;have ha:=OB x.lo;have hb:=OB x.ho;have hc:=OB x.li;have hd:=OB x.hi;obtain⟨ln,ld,hn,hd',lo,ho,li,hi⟩:=x;rw[Ai 325];simp only[AE,AF,AA 325 0,AX];simp[Ivl.V,AS,AA 325 1];refine⟨_,_,⟨rfl,rfl⟩,_,ha,?_⟩;simp;refine⟨_,_,⟨rfl,rfl⟩,_,hb,?_⟩;simp;refine⟨_,_,⟨rfl,rfl⟩,_,hc,?_⟩;simp;refine⟨_,_,⟨rfl,rfl⟩,_,hd,?_⟩;simp;simp[AH]at hp;refine⟨_,_,⟨rfl,rfl⟩,_,hp,?_⟩;simp[AB,AW 325,AH]
theorem VV (op n:Int) (ins:List Ivl) (kids:List F):BS (.mk op n ins kids)=Cd (.mk op n ins kids)++kids.flatMap BS:=by
 unfold BS;rw[F.nodes_eq,oZ,List.flatMap_assoc]
theorem DY {α:Type} (l:List α) (f:α→List Int) (k:Nat):((l.take k).flatMap f).length≤(l.flatMap f).length:=by
 have:=congrArg (λl=>(List.flatMap f l).length) (pQ k l);simp only[pm,oL]at this;omega
theorem JA {α:Type} {l:List α} {f:α→List Int} {x:α} (h:x∈l):(f x).length≤(l.flatMap f).length:=by
 induction l with
 |nil=>cases h
 |cons y l ih=>
  rw[oZ,oL];cases h with
  |head=>omega
  |tail _ h=>have:=ih h;omega
theorem bR (op n:Int) (ins:List Ivl) (kids:List F) (hins:∀x∈ins,x.ok) (hil:ins.length≤2^40) (room:∀m:Nat,m≤2^46→AU m 1=true) (pre:List Int) (hb:pre.length+(ins.flatMap Bv).length≤2^46):
  awp Tryz.prog Ah (.loop (lG 297 0)) (λe s=>e= .exit 0∧s=⟨[(1,.ref 0 0),(3,.own 5 1 ((pre++ins.flatMap Bv).map (.int .u8))),(4,.v (.int .i64 ins.length)),(23,.v (.bool false))],[.cells (F.mk op n ins kids).cells]⟩)
   ⟨[(1,.ref 0 0),(3,.own 5 1 (pre.map (.int .u8))),(4,.v (.int .i64 0))],[.cells (F.mk op n ins kids).cells]⟩:=by
 refine AN ins.length (λk=>⟨[(1,.ref 0 0),(3,.own 5 1 ((pre++(ins.take k).flatMap Bv).map (.int .u8))),(4,.v (.int .i64 k))],[.cells (F.mk op n ins kids).cells]⟩) (by simp) ?_;intro k hk;simp only[Zw,A8 297 0,AA 297 4,F.cells,F.op,F.n,F.ins,F.kids];simp;by_cases hlt:k <ins.length
 ·obtain⟨x,hx⟩:∃x,ins[k]?=some x:=⟨_,oI hlt⟩;have hxm:=oK hx;have hxe:ins[k]=x:=(oM.1 hx).2;have hw:=Bb k;have p1:=(fC x (hins x hxm)).fsp;have hle:=DY ins Bv (k+1);rw[BT hlt,hxe,oL]at hle;rw[if_pos (by omega),AD];simp only[AA 297 5,AA 297 6];simp[Ivl.V,AH]at p1;simp[hx,Ivl.V];refine⟨_,_,p1 _,?_⟩;simp[hw,hlt,-List.length_flatMap,room _ (show pre.length+((ins.take k).flatMap Bv).length+(Bv x).length≤2^46 by omega)];rw[BT hlt,hxe];simp
 ·have:k=ins.length:=by omega
  subst this;rw[if_neg (by omega),AJ];simp
theorem bQ (op n:Int) (ins:List Ivl) (kids:List F) (hp:∀x∈kids,∀h,FX 297 [.v x.V] h [.v (AH .u8 (BS x))] h) (hkl:kids.length≤2^40) (room:∀m:Nat,m≤2^46→AU m 1=true) (pre:List Int) (hb:pre.length+(kids.flatMap BS).length≤2^46):
  awp Tryz.prog Ah (.loop (lG 297 1)) (λe s=>e= .exit 2∧s=⟨[(1,.ref 0 0),(3,.own 5 1 ((pre++kids.flatMap BS).map (.int .u8))),(5,.v (.int .i64 kids.length)),(44,.v (.bool false))],[.cells (F.mk op n ins kids).cells]⟩)
   ⟨[(1,.ref 0 0),(3,.own 5 1 (pre.map (.int .u8))),(5,.v (.int .i64 0))],[.cells (F.mk op n ins kids).cells]⟩:=by
 refine AN kids.length (λk=>⟨[(1,.ref 0 0),(3,.own 5 1 ((pre++(kids.take k).flatMap BS).map (.int .u8))),(5,.v (.int .i64 k))],[.cells (F.mk op n ins kids).cells]⟩) (by simp) ?_;intro k hk;simp only[Zw,A8 297 1,AA 297 9,F.cells,F.op,F.n,F.ins,F.kids];simp;by_cases hlt:k <kids.length
 ·obtain⟨x,hx⟩:∃x,kids[k]?=some x:=⟨_,oI hlt⟩;have hxm:=oK hx;have hxe:kids[k]=x:=(oM.1 hx).2;have hw:=Bb k;have p1:=hp x hxm;have hle:=DY kids BS (k+1);rw[BT hlt,hxe,oL]at hle;have e:(kids.take (k+1)).flatMap BS=(kids.take k).flatMap BS++BS x:=by rw[BT hlt,hxe]
  generalize BS x=bs at*;obtain⟨xo,xn,xi,xk⟩:=x;rw[if_pos (by omega),AD];simp only[AA 297 10,AA 297 11];simp[F.V_eq,AH]at p1;simp[hx,F.V_eq];refine⟨_,_,p1 _,?_⟩;simp[hw,hlt,-List.length_flatMap,room _ (show pre.length+((kids.take k).flatMap BS).length+bs.length≤2^46 by omega),e]
 ·have:k=kids.length:=by omega
  subst this;rw[if_neg (by omega),AJ];simp
theorem fX:∀f:F,f.ok→(BS f).length≤2^45→PX 297 [f.V] [AH .u8 (BS f)]:=by
 refine F.ind λop n ins kids ih hok hb=>?_;refine BJ 297 ?_;have h1:=F.ok1_self hok;have hsz:=hok.2;rw[F.size_eq]at hsz;have hkl:=F.kids_len kids;rw[VV]at hb ⊢;simp only[Cd,F.op,F.n,F.ins,F.kids,F.ok1]at*;have il:i64 (ins.length:Int):=by unfold i64;omega
 have kl:i64 (kids.length:Int):=by unfold i64;omega
 have q1:=Ab op;have q2:=Ab n;have q3:=Ab ins.length;have q4:=Ab kids.length;simp only[oL]at hb;have room:∀m:Nat,m≤2^46→AU m 1=true:=by intro m hm;simp[AU];omega
 simp only[Ai 297,AE,AF,Bf,AM,AA 297 0,AA 297 1,AX];simp[F.V_eq];refine⟨_,_,M5 op h1.1 _,⟨[],rfl⟩,_,_,M5 n h1.2.1 _,⟨[],by simp⟩,?_⟩;simp[room _ (show (AZ op).length+(AZ n).length≤2^46 by omega)];refine⟨_,.inl rfl,?_⟩;simp[AA 297 2];refine⟨_,_,M5 ins.length il _,?_⟩;simp[room _ (show (AZ op).length+(AZ n).length+(AZ ins.length).length≤2^46 by omega),AA 297 3];have hl:=bR op n ins kids h1.2.2.1 h1.2.2.2 room (AZ op++(AZ n++AZ ins.length)) (by simp only[oL];omega);simp[F.cells,F.op,F.n,F.ins,F.kids]at hl;refine EO hl ?_;simp[AA 297 7];refine⟨_,_,M5 kids.length kl _,?_⟩;simp[-List.length_flatMap,room _ (show (AZ op).length+((AZ n).length+((AZ ins.length).length+(ins.flatMap Bv).length))+(AZ kids.length).length≤2^46 by omega),AA 297 8];have hl2:=bQ op n ins kids (λx hx h=>(ih x hx (F.ok_kid hok hx) (by have:=JA (f:=BS) hx;omega)).fsp h) (by omega) room (AZ op++(AZ n++(AZ ins.length++(ins.flatMap Bv++AZ kids.length)))) (by simp only[oL];omega);simp[F.cells,F.op,F.n,F.ins,F.kids]at hl2;refine EO hl2 ?_;simp[AA 297 12,AB,AW 297,AH]
def DA (l:List Int) (k:Nat):Int:=match k with|0=> -1|j+1=>l.getD j 0
def Cb (l:List Int) (i:Int) (k:Nat):Bool:=decide (l.getD k 0≤DA l k∨i≤l.getD k 0)
def Dq (l:List Int) (i:Int):Bool:= !(List.range l.length).any (Cb l i)
theorem gw (l:List Int) (i:Int) (hn:l.length≤2^40):PX 241 [AH .i64 l,.int .i64 i] [.bool (Dq l i)]:=by
 refine BJ 241 ?_;simp only[Ai 241,AE,AF,AM,AA 241 0,AA 241 1,AA 241 2,AX];simp[AH];refine Al l.length (λk=>⟨[(1,.v (.int .i64 i)),(5,.v (.int .i64 (DA l k))),(8,.v (AH .i64 l)),(9,.v (.int .i64 l.length)),(10,.v (.int .i64 k))],[]⟩) (λk=>∀j <k,Cb l i j=false) (by simp[AH,DA]) (by omega) ?_;intro k hk hI;simp only[Zw,A8 241 0,AA 241 3];simp[AH];by_cases h1:k <l.length
 ·obtain⟨x,hx⟩:∃x,l[k]?=some x:=⟨_,oI h1⟩;have hw:=Bb k;have hb:Cb l i k=decide (x≤DA l k∨i≤x):=by unfold Cb;simp[List.getD,hx]
  have hlast:DA l (k+1)=x:=by simp[DA,List.getD,hx]
  rw[if_pos (by omega),AD];simp only[AA 241 4,AA 241 5];simp[hx];by_cases b1:x≤DA l k
  ·have hbt:Cb l i k=true:=by rw[hb];simp[b1]
   simp[b1,AB,AA 241 6,AW 241];unfold Dq;rw[D3 h1 hbt];rfl
  ·by_cases b2:i≤x
   ·have hbt:Cb l i k=true:=by rw[hb];simp[b2]
    simp[b1,b2,AB,AA 241 6,AW 241];unfold Dq;rw[D3 h1 hbt];rfl
   ·have hbf:Cb l i k=false:=by rw[hb];simp;omega
    simp[b1,b2,AD,AA 241 7,AA 241 8,hw,h1,hlast];intro j hj;rcases om j k with h|h
    ·exact hI j h
    ·have:j=k:=by omega
     subst this;exact hbf
 ·have hk2:k=l.length:=by omega
  subst hk2;rw[if_neg (by omega),AJ];simp[AB,AA 241 9,AW 241];unfold Dq;rw[FJ hI];rfl
theorem iX (l:List Int) (i:Int) (hn:l.length≤2^40):PX 213 [AH .i64 l,.int .i64 i] [.bool (Dq l i)]:=by
 refine BJ 213 ?_;simp only[Ai 213,AE,AF,AM,AA 213 0,AA 213 1,AX];simp[AH];refine Al l.length (λk=>⟨[(0,.v (AH .i64 l)),(1,.v (.int .i64 i)),(5,.v (.int .i64 k))],[]⟩) (λk=>∀j <k,Cb l i j=false) (by simp[AH]) (by omega) ?_;intro k hk hI;have hge: -1≤DA l k:=by
  have:∀k,(∀j <k,Cb l i j=false)→ -1≤DA l k:=by
   intro k;induction k with
   |zero=>intro _;simp[DA]
   |succ j ih=>
    intro h;have h1:=ih λj' h'=>h j' (by omega);have h2:=h j (by omega);unfold Cb at h2;simp at h2;have e:DA l (j+1)=l.getD j 0:=rfl;rw[e];simp only[sT]at *;omega
  exact this k hI
 simp only[Zw,A8 213 0,AS,AA 213 2];simp[AH];by_cases h1:k <l.length
 ·obtain⟨x,hx⟩:∃x,l[k]?=some x:=⟨_,oI h1⟩;have hw:=Bb k;have hb:Cb l i k=decide (x≤DA l k∨i≤x):=by unfold Cb;simp[List.getD,hx]
  have hbad:Cb l i k=true→Dq l i=false:=by intro h;unfold Dq;rw[D3 h1 h];rfl
  have hgood:Cb l i k=false→∀j <k+1,Cb l i j=false:=by
   intro hbf j hj;rcases om j k with h|h
   ·exact hI j h
   ·have:j=k:=by omega
    subst this;exact hbf
  rw[if_pos (by omega),AD];simp only[AA 213 4];by_cases b1:x <0
  ·have hbt:Cb l i k=true:=by rw[hb];simp;omega
   simp[hx,b1,AB,AA 213 5,AW 213,hbad hbt]
  ·by_cases b2:i≤x
   ·have hbt:Cb l i k=true:=by rw[hb];simp[b2]
    simp[hx,b1,b2,AB,AA 213 5,AW 213,hbad hbt]
   ·cases k with
    |zero=>
     have hbf:Cb l i 0=false:=by
      have e:DA l 0= -1:=rfl;rw[hb,e];simp;omega
     have hx2:l[0]=x:=(oM.1 hx).2;simp at hw;simp[hx2,b1,b2,AD,AA 213 3,hw,h1];exact hbf
    |succ j=>
     obtain⟨y,hy⟩:∃y,l[j]?=some y:=⟨_,oI (by omega)⟩;have hw2:IntKind.i64.wrap (j:Int)=j:=AL;have hl:DA l (j+1)=y:=by simp[DA,List.getD,hy]
     have hx2:l[j+1]=x:=(oM.1 hx).2;have h9:(0:Int) <(j:Int)+1:=by omega
     have h10:(0:Int)≤(j:Int)+1:=by omega
     by_cases b3:x≤y
     ·have hbt:Cb l i (j+1)=true:=by rw[hb,hl];simp[b3]
      simp[b1,b2,h9,h10,hw2,hx,hy,b3,AB,AA 213 5,AW 213,hbad hbt]
     ·have hbf:Cb l i (j+1)=false:=by rw[hb,hl];simp;omega
      simp at hw;simp[b1,b2,h9,h10,hw2,hx2,hy,b3,AD,AA 213 3,hw,h1];exact hgood hbf
 ·have hk2:k=l.length:=by omega
  subst hk2;rw[if_neg (by omega),AJ];simp[AB,AA 213 6,AW 213];unfold Dq;rw[FJ hI];rfl
structure Clm where
 refs:List Int
 body:F
def Clm.V (c:Clm):V:= .agg [AH .i64 c.refs,.int .i64 c.body.op,.int .i64 c.body.n,.list (c.body.ins.map Ivl.V),.list (c.body.kids.map F.V)]
def Clm.ok (c:Clm):Prop:=(∀n∈c.refs,i64 n)∧c.refs.length≤2^40∧c.body.ok
theorem F.V_flds (f:F):f.V= .agg [.int .i64 f.op,.int .i64 f.n,.list (f.ins.map Ivl.V),.list (f.kids.map F.V)]:=by cases f;rw[F.V_eq];rfl
def Fc (e:Nat→Int):Nat→Nat→Int
 |_,0=>0
 |k,m+1=>if e k≠0 then e k else Fc e (k+1) m
theorem FU {e:Nat→Int}:∀(m k:Nat),(∀j,k≤j→j <k+m→e j=0)→Fc e k m=0
 |0,_,_=>rfl
 |m+1,k,h=>by
  simp only[Fc,h k (by omega) (by omega)];simpa using FU m (k+1) λj h1 h2=>h j (by omega) (by omega)
theorem Hk {e:Nat→Int}:∀(m k i:Nat),k≤i→i <k+m→(∀j,k≤j→j <i→e j=0)→e i≠0→Fc e k m=e i
 |0,k,i,h1,h2,_,_=>by omega
 |m+1,k,i,h1,h2,h,hi=>by
  by_cases hk:k=i
  ·subst hk;simp only[Fc,if_pos hi]
  ·simp only[Fc,h k (by omega) (by omega)];simpa using Hk m (k+1) i (by omega) (by omega) (λj h3 h4=>h j (by omega) h4) hi
def LZ (c:Clm) (k:Nat):Int:=if c.refs.length>8 then 4 else if Dq c.refs k then BR c.body else 1
def JE (l:List Clm) (k:Nat):Int:=match l[k]? with|none=>0|some c=>LZ c k
def CD (l:List Clm):Int:=if l.length>32 then 4 else Fc (JE l) 0 l.length
theorem XU (l:List Clm) (hl:∀c∈l,c.ok) (hn:l.length≤2^40):PX 138 [.list (l.map Clm.V)] [.int .i64 (CD l)]:=by
 refine BJ 138 ?_;obtain⟨R,hR⟩:∃R,CD l=R:=⟨_,rfl⟩;rw[hR];unfold CD at hR;simp only[Zw,Ai 138,AA 138 0,AA 138 1,AX];simp;by_cases h32:32 <l.length
 ·have h32':32 <(l.length:Int):=by omega
  simp[h32]at hR;simp[h32',AB,AA 138 2,AW 138,hR]
 ·have h32':¬32 <(l.length:Int):=by omega
  simp only[gt_iff_lt,h32,if_false]at hR;simp[h32',AD,AA 138 3];refine AY l.length (λk s=>s.e=[(9,.v (.list (l.map Clm.V))),(10,.v (.int .i64 l.length)),(11,.v (.int .i64 k))]∧∀j <k,JE l j=0) ⟨rfl,by omega⟩ ?_;rintro k ⟨se,sh⟩ hk ⟨he,hI⟩;simp only at he;subst he;simp only[Zw,A8 138 0,AA 138 4];simp;by_cases h1:k <l.length
  ·obtain⟨x,hx⟩:∃x,l[k]?=some x:=⟨_,oI h1⟩;obtain⟨o1,o2,o3⟩:=hl x (oK hx);have hw:=Bb k;have hat:JE l k=LZ x k:=by unfold JE;rw[hx]
   have hbad:LZ x k≠0→R=LZ x k:=λh=>by rw[←hR,Hk l.length 0 k (by omega) (by omega) (λj _ h3=>hI j h3) (by rw[hat];exact h),hat]
   have p1:=(gw x.refs k o2).fsp;have p2:=(ZW x.body o3).fsp;rw[F.V_flds]at p2;unfold LZ at hbad hat;rw[if_pos (by omega),AD];simp only[AA 138 5,AA 138 6];simp[hx,Clm.V,AH,AO];simp[AH]at p1 p2;by_cases b1:8 <x.refs.length
   ·have b1':8 <(x.refs.length:Int):=by omega
    simp[b1]at hbad;simp[b1',AB,AA 138 7,AW 138,hbad]
   ·have b1':¬8 <(x.refs.length:Int):=by omega
    simp only[gt_iff_lt,b1,if_false]at hbad hat;simp[b1',AA 138 8];refine⟨_,_,p1 _,?_⟩;cases hr:Dq x.refs k with
    |false=>
     simp[hr]at hbad;simp[AB,AA 138 9,AW 138,hbad]
    |true=>
     simp[hr]at hbad hat;simp[AD,AA 138 10];refine⟨_,_,p2 _,?_⟩;by_cases b2:BR x.body=0
     ·rw[b2]at hat;simp[b2,AA 138 11,AA 138 13,hw,h1];intro j hj;rcases om j k with h|h
      ·exact hI j h
      ·have:j=k:=by omega
       subst this;exact hat
     ·simp[b2,AA 138 11,AB,AA 138 12,AW 138,hbad b2]
  ·have hk2:k=l.length:=by omega
   subst hk2;rw[if_neg (by omega),AJ];rw[FU _ _ (λj _ h3=>hI j (by omega))]at hR;simp[AB,AA 138 14,AW 138,hR]
theorem XX (l:List Clm) (hl:∀c∈l,c.ok) (hn:l.length≤2^40):PX 126 [.list (l.map Clm.V)] [.int .i64 (CD l)]:=by
 refine BJ 126 ?_;obtain⟨R,hR⟩:∃R,CD l=R:=⟨_,rfl⟩;rw[hR];unfold CD at hR;simp only[Zw,Ai 126,AA 126 0,AA 126 1,AX];simp;by_cases h32:32 <l.length
 ·have h32':32 <(l.length:Int):=by omega
  simp[h32]at hR;simp[h32',AB,AA 126 2,AW 126,hR]
 ·have h32':¬32 <(l.length:Int):=by omega
  simp only[gt_iff_lt,h32,if_false]at hR;simp[h32',AD,AA 126 3];refine Al l.length (λk=>⟨[(0,.v (.list (l.map Clm.V))),(3,.v (.int .i64 k))],[]⟩) (λk=>∀j <k,JE l j=0) rfl (by omega) ?_;intro k hk hI;simp only[Zw,A8 126 0,AA 126 4];simp;by_cases h1:k <l.length
  ·obtain⟨x,hx⟩:∃x,l[k]?=some x:=⟨_,oI h1⟩;obtain⟨o1,o2,o3⟩:=hl x (oK hx);have hw:=Bb k;have hat:JE l k=LZ x k:=by unfold JE;rw[hx]
   have hbad:LZ x k≠0→R=LZ x k:=λh=>by rw[←hR,Hk l.length 0 k (by omega) (by omega) (λj _ h3=>hI j h3) (by rw[hat];exact h),hat]
   have p1:=(iX x.refs k o2).fsp;have p2:=(Ur x.body o3).fsp;rw[F.V_flds]at p2;unfold LZ at hbad hat;rw[if_pos (by omega),AD];simp only[AA 126 6];simp[hx,Clm.V,AH];simp[AH]at p1 p2;by_cases b1:8 <x.refs.length
   ·have b1':8 <(x.refs.length:Int):=by omega
    simp[b1]at hbad;simp[b1',AB,AA 126 7,AW 126,hbad]
   ·have b1':¬8 <(x.refs.length:Int):=by omega
    simp only[gt_iff_lt,b1,if_false]at hbad hat;simp[b1',hx,Clm.V,AH,AD,AA 126 8];refine⟨_,_,p1 _,?_⟩;cases hr:Dq x.refs k with
    |false=>
     simp[hr]at hbad;simp[AB,AA 126 9,AW 126,hbad]
    |true=>
     simp[hr]at hbad hat;simp[hx,Clm.V,AH,AA 126 10];refine⟨_,_,p2 _,?_⟩;by_cases b2:BR x.body=0
     ·rw[b2]at hat;simp[b2,AA 126 11,AA 126 5,hw,h1];intro j hj;rcases om j k with h|h
      ·exact hI j h
      ·have:j=k:=by omega
       subst this;exact hat
     ·simp[b2,AA 126 11,AB,AA 126 12,AW 126,hbad b2]
  ·have hk2:k=l.length:=by omega
   subst hk2;rw[if_neg (by omega),AJ];rw[FU _ _ (λj _ h3=>hI j (by omega))]at hR;simp[AB,AA 126 13,AW 126,hR]
def BL (c:Clm):List Int:=A6 c.refs++BE (BS c.body)
def BB (l:List Clm):List Int:=AZ l.length++l.flatMap BL
theorem iE (l:List Clm) (hl:∀c∈l,c.ok) (hn:l.length≤2^40) (hb:(BB l).length≤2^44):PX 235 [.list (l.map Clm.V)] [AH .u8 (BB l)]:=by
 refine BJ 235 ?_;have il:i64 (l.length:Int):=by unfold i64;omega
 have room:∀m:Nat,m≤2^46→AU m 1=true:=by intro m hm;simp[AU];omega
 unfold BB at hb ⊢;rw[oL]at hb;simp only[Ai 235,AE,AF,AM,AA 235 0,AA 235 1,AA 235 2,AX];simp;refine⟨_,_,M5 l.length il _,?_⟩;simp;refine AN l.length (λk=>⟨[(0,.v (.list (l.map Clm.V))),(3,.own 5 1 ((AZ l.length++(l.take k).flatMap BL).map (.int .u8))),(4,.v (.int .i64 k))],[]⟩) (by simp) ?_;intro k hk;simp only[Zw,A8 235 0,AA 235 3];simp;by_cases hlt:k <l.length
 ·obtain⟨x,hx⟩:∃x,l[k]?=some x:=⟨_,oI hlt⟩;have hxm:=oK hx;have hxe:l[k]=x:=(oM.1 hx).2;obtain⟨o1,o2,o3⟩:=hl x hxm;have hw:=Bb k;have hle:=DY l BL (k+1);rw[BT hlt,hxe,oL]at hle;have e:(l.take (k+1)).flatMap BL=(l.take k).flatMap BL++BL x:=by rw[BT hlt,hxe]
  have ec:(BL x).length=(A6 x.refs).length+(BE (BS x.body)).length:=by simp[BL]
  have er:(BE (BS x.body)).length=(E4 (BS x.body).length).length+(BS x.body).length:=by simp[BE]
  have p1:=aP x.refs o1 o2;have p2:=(fX x.body o3 (by omega)).fsp;have p3:=aQ (BS x.body) (by omega);rw[F.V_flds]at p2;have e2:BL x=A6 x.refs++BE (BS x.body):=rfl;generalize BE (BS x.body)=B at*;generalize A6 x.refs=A at*;generalize BS x.body=C at*;rw[if_pos (by omega),AD];simp only[AA 235 5,AA 235 6];simp[AH]at p1 p2 p3;simp[hx,Clm.V,AH];refine⟨_,_,p1 _,?_⟩;simp[-List.length_flatMap,hx,Clm.V,room _ (show (AZ l.length).length+((l.take k).flatMap BL).length+A.length≤2^46 by omega)];refine⟨_,_,p2 _,?_⟩;simp[-List.length_flatMap];refine⟨_,_,p3 _,?_⟩;simp[-List.length_flatMap,hw,hlt,AA 235 4,room _ (show (AZ l.length).length+(((l.take k).flatMap BL).length+A.length)+B.length≤2^46 by omega),e,e2]
 ·have:k=l.length:=by omega
  subst this;rw[if_neg (by omega),AJ];simp[AB,AA 235 7,AW 235,AH]
theorem ja (l:List Clm) (hl:∀c∈l,c.ok) (hn:l.length≤2^40) (hb:(BB l).length≤2^44):PX 134 [.list (l.map Clm.V)] [AH .u8 (if CD l=0 then BB l else []),.int .i64 (CD l)]:=by
 refine BJ 134 ?_;have p1:=(XX l hl hn).fsp;have p2:=(iE l hl hn hb).fsp;generalize CD l=e at*;simp[AH]at p1 p2;simp only[Ai 134,AE,AF,AK,AA 134 0,AA 134 1,AA 134 2,AX];simp;refine⟨_,_,p1 _,?_⟩;by_cases h:e=0
 ·subst h;simp[AD,AA 134 4];refine⟨_,_,p2 _,?_⟩;simp[AB,AW 134,AH]
 ·simp[h,AB,AA 134 3,AW 134,AH]
theorem XV (n:Int):PX 131 [.int .i64 n] [.bool (decide (0≤n∧n≤4095))]:=by
 refine BJ 131 ?_;by_cases h1:0≤n<;>by_cases h2:n≤4095<;>simp[Ai 131,awp,AA 131 0,AA 131 1,AW 131,AX,h1,h2]
def FC (k:Int) (v:List Int):Int:=Ln [112,97,105,114] [k,v.length,IntKind.i64.wrap (I2 [118,97,108,117,101] v)]
theorem jb (k:Int) (v:List Int) (hv:∀x∈v,0≤x∧x <256) (hl:v.length≤2^39):PX 133 [.int .i64 k,AH .u8 v] [.int .u64 (FC k v)]:=by
 refine BJ 133 ?_;have p1:=(iF ⟨#[118,97,108,117,101]⟩ v hv (by decide) hl).fsp;have p2:=(eJ ⟨#[112,97,105,114]⟩ [k,v.length,IntKind.i64.wrap (I2 [118,97,108,117,101] v)] (by decide) (by simp)).fsp;have e1:Ag ⟨#[118,97,108,117,101]⟩=[118,97,108,117,101]:=by simp[Ag]
 have e2:Ag ⟨#[112,97,105,114]⟩=[112,97,105,114]:=by simp[Ag]
 rw[e1]at p1;rw[e2]at p2;have e3:Ln [112,97,105,114] [k,v.length,IntKind.i64.wrap (I2 [118,97,108,117,101] v)]=FC k v:=rfl;rw[e3]at p2;simp[AH]at p1 p2;simp only[Ai 133,AE,AF,AA 133 0,AA 133 1,AX];simp[AH];refine⟨_,_,p1 _,?_⟩;simp;refine⟨_,_,p2 _,?_⟩;simp[AB,AW 133]
theorem jZ (k:Int) (v:List Int) (hv:∀x∈v,0≤x∧x <256) (hl:v.length≤2^39):PX 136 [.agg [.int .i64 k,AH .u8 v]] [.int .u64 (FC k v)]:=by
 refine BJ 136 ?_;have p1:=iD ⟨#[118,97,108,117,101]⟩ v hv (by decide) hl;have p2:=eQ ⟨#[112,97,105,114]⟩ [k,v.length,IntKind.i64.wrap (I2 [118,97,108,117,101] v)] (by decide) (by simp);have e1:Ag ⟨#[118,97,108,117,101]⟩=[118,97,108,117,101]:=by simp[Ag]
 have e2:Ag ⟨#[112,97,105,114]⟩=[112,97,105,114]:=by simp[Ag]
 rw[e1]at p1;rw[e2]at p2;have e3:Ln [112,97,105,114] [k,v.length,IntKind.i64.wrap (I2 [118,97,108,117,101] v)]=FC k v:=rfl;rw[e3]at p2;simp[AH]at p1 p2;simp only[Ai 136,AE,AF,AS,AA 136 0,AA 136 1,AX];simp[AH];refine⟨_,_,⟨rfl,rfl⟩,_,p1,?_⟩;simp;refine⟨_,_,⟨rfl,rfl⟩,_,p2,?_⟩;simp[AB,AW 136]
def IF (a:Option Int):V:= .agg [.int .u64 (a.getD 0),.bool a.isSome]
theorem iw (a b:Option Int):PX 182 [IF a,IF b] [IF (EX a b)]:=by
 refine BJ 182 ?_;have e2:Ag ⟨#[98,108,111,99,107]⟩=[98,108,111,99,107]:=by simp[Ag]
 have p2:=(eJ ⟨#[98,108,111,99,107]⟩ [IntKind.i64.wrap (a.getD 0),IntKind.i64.wrap (b.getD 0)] (by decide) (by simp)).fsp;rw[e2]at p2;simp[AH]at p2;simp only[Ai 182,AE,AF,AK,AA 182 0,AA 182 1,AA 182 2,AA 182 3,AX];cases a with
 |none=>
  cases b with
  |none=>simp[IF,AB,AW 182,AO,EX]
  |some b=>
   simp[IF,AD,AO,EX]at p2 ⊢;refine⟨_,_,p2 _,?_⟩;simp[AB,AW 182]
 |some a=>
  simp[IF,AD,AO,EX]at p2 ⊢;refine⟨_,_,p2 _,?_⟩;simp[AB,AW 182]
def KP (p:Int×List Int):V:= .agg [.int .i64 p.1,AH .u8 p.2]
def G0 (ps:List (Int×List Int)):Row:= .cells [.own 200 2 (ps.map KP)]
def PY (p:Int×List Int):Prop:=(∀x∈p.2,0≤x∧x <256)∧p.2.length≤2^39
def DV (ps:List (Int×List Int)) (k:Int):Option Int:=(ps.find? λp=>p.1==k).map λp=>FC p.1 p.2
theorem nE (h:List Row) (r:Nat) (ps:List (Int×List Int)) (hr:h[r]?=some (G0 ps)) (hl:ps.length≤2^40) (k:Int):
  FX 55 [.ref r 0,.v (.int .i64 k)] h [.v (.int .i64 (DX (ps.findIdx? λp=>p.1==k)))] h:=by
 refine Dh 55 ?_;simp only[Ai 55,AE,AF,AM,AA 55 0,AA 55 1,AQ];simp;refine Al ps.length (λi=>⟨[(0,.ref r 0),(1,.v (.int .i64 k)),(5,.v (.int .i64 i))],h⟩) (λi=>∀j <i,∀p,ps[j]?=some p→(p.1==k)=false) (by simp) (by simp) ?_;intro i hi hI;simp only[Zw,A8 55 0,AA 55 2];simp[hr,G0];by_cases hlt:i <ps.length
 ·obtain⟨p,hp⟩:∃p,ps[i]?=some p:=⟨_,oI hlt⟩;have hpe:ps[i]=p:=(oM.1 hp).2;have hw:=Bb i;rw[if_pos (by omega),AD];simp only[AA 55 4];simp[hr,G0,hp,KP];by_cases hk:p.1=k
  ·have hf:ps.findIdx? (λp=>p.1==k)=some i:=by
    rw[qu];refine⟨hlt,by rw[hpe];simpa using hk,λj hj=>?_⟩;have:=hI j hj ps[j] (oI (by omega));simpa using this
   simp[hk,hf,DX,AB,AA 55 5,AW 55]
  ·simp[hk,AD,AA 55 3,hw,hlt];intro j hj a b hab;rcases om j i with h|h
   ·have:=hI j h _ hab;simpa using this
   ·have:j=i:=by omega
    subst this;rw[hp]at hab;cases hab;exact hk
 ·have:i=ps.length:=by omega
  subst this;have hf:ps.findIdx? (λp=>p.1==k)=none:=by
   rw[qf];intro p hp;obtain⟨j,hj⟩:=rQ hp;exact hI j (oM.1 hj).1 p hj
  rw[if_neg (by omega),AJ];simp[AB,AA 55 6,AW 55,hf,DX]
theorem nl (h:List Row) (r:Nat) (ps:List (Int×List Int)) (hr:h[r]?=some (G0 ps)) (hl:ps.length≤2^40) (a s:Int) (ha:0≤a∧a≤4096) (hs:1 <s∧s≤4096):
  awp Tryz.prog Ah (.loop (lG 58 0)) (λe st=>e= .exit 0∧AG st.e 0= .ref r 0∧AG st.e 1= .v (.int .i64 a)∧AG st.e 2= .v (.int .i64 s)∧AG st.e 8= .v (.bool (ps.any λp=>decide (a≤p.1∧p.1 <a+s)))∧st.h=h)
   ⟨[(0,.ref r 0),(1,.v (.int .i64 a)),(2,.v (.int .i64 s)),(8,.v (.bool false)),(9,.v (.int .i64 0))],h⟩:=by
 refine AN ps.length (λi=>⟨[(0,.ref r 0),(1,.v (.int .i64 a)),(2,.v (.int .i64 s)),(8,.v (.bool ((ps.take i).any λp=>decide (a≤p.1∧p.1 <a+s)))),(9,.v (.int .i64 i))],h⟩) (by simp) ?_;intro i hi;have wa:IntKind.i64.wrap (a+s)=a+s:=AL;simp only[Zw,A8 58 0,AA 58 3];simp[hr,G0];by_cases hlt:i <ps.length
 ·obtain⟨p,hp⟩:∃p,ps[i]?=some p:=⟨_,oI hlt⟩;have hpe:ps[i]=p:=(oM.1 hp).2;have hw:=Bb i;have htk:ps.take (i+1)=ps.take i++[p]:=by rw[pX hlt,hpe]
  have hs1:¬s=1:=by omega
  rw[if_pos (by omega),AD];simp only[AA 58 5];simp[hr,G0,hp,KP];simp only[AA 58 6];by_cases h1:a≤p.1
  ·by_cases h2:p.1 <a+s
   ·simp[h1,h2,wa,AA 58 7,hs1,AD,AA 58 9,AA 58 4,hw,hlt,htk]
   ·simp[h1,h2,wa,AD,AA 58 4,hw,hlt,htk]
  ·simp[h1,AD,AA 58 4,hw,hlt,htk]
 ·have:i=ps.length:=by omega
  subst this;rw[if_neg (by omega),AJ];simp
theorem ek (h:List Row) (r:Nat) (ps:List (Int×List Int)) (hr:h[r]?=some (G0 ps)) (hl:ps.length≤2^40) (hok:∀p∈ps,PY p) (a:Int) (ha:0≤a∧a≤4096):
  FX 58 [.ref r 0,.v (.int .i64 a),.v (.int .i64 1)] h [.v (.int .u64 ((DV ps a).getD 0)),.v (.bool (DV ps a).isSome)] h:=by
 refine Dh 58 ?_;have wa:IntKind.i64.wrap (a+1)=a+1:=AL;simp only[Ai 58,AE,AF,AM,AA 58 0,AA 58 1,AA 58 2,AQ];simp;refine Al ps.length (λi=>⟨[(0,.ref r 0),(1,.v (.int .i64 a)),(2,.v (.int .i64 1)),(8,.v (.bool false)),(9,.v (.int .i64 i))],h⟩) (λi=>∀j <i,∀p,ps[j]?=some p→(p.1==a)=false) (by simp) (by simp) ?_;intro i hi hI;simp only[Zw,A8 58 0,AA 58 3];simp[hr,G0];by_cases hlt:i <ps.length
 ·obtain⟨p,hp⟩:∃p,ps[i]?=some p:=⟨_,oI hlt⟩;have hpe:ps[i]=p:=(oM.1 hp).2;have hw:=Bb i;rw[if_pos (by omega),AD];simp only[AA 58 5];simp[hr,G0,hp,KP];simp only[AA 58 6];by_cases hk:p.1=a
  ·have hf:ps.find? (λp=>p.1==a)=some p:=by
    rw[List.find?_eq_some_iff_getElem];refine⟨by simpa using hk,i,hlt,hpe,λj hj=>?_⟩;have:=hI j hj ps[j] (oI (by omega));simpa using this
   have h2:a <a+1:=by omega
   obtain⟨o1,o2⟩:=hok p (oK hp);have p1:=(jZ p.1 p.2 o1 o2).fsp;rw[hk]at p1;simp[AH]at p1;simp[hk,h2,wa,AA 58 7];simp[AA 58 8,hr,G0,hp,KP,AH,hk];refine⟨_,_,p1 _,?_⟩;simp[AB,AW 58,DV,hf,hk]
  ·have h3:¬(a≤p.1∧p.1 <a+1):=by omega
   by_cases h1:a≤p.1
   ·have h2:¬p.1 <a+1:=by omega
    simp[h1,h2,wa,AD,AA 58 4,hw,hlt];intro j hj x y hab;rcases om j i with h|h
    ·have:=hI j h _ hab;simpa using this
    ·have:j=i:=by omega
     subst this;rw[hp]at hab;cases hab;exact hk
   ·simp[h1,AD,AA 58 4,hw,hlt];intro j hj x y hab;rcases om j i with h|h
    ·have:=hI j h _ hab;simpa using this
    ·have:j=i:=by omega
     subst this;rw[hp]at hab;cases hab;exact hk
 ·have:i=ps.length:=by omega
  subst this;have hf:ps.find? (λp=>p.1==a)=none:=by
   rw[rp];intro p hp;obtain⟨j,hj⟩:=rQ hp;have:=hI j (oM.1 hj).1 p hj;simpa using this
  rw[if_neg (by omega),AJ];simp[AB,AA 58 10,AA 58 11,AW 58,DV,hf]
def Cz (l n:Int):V:= .agg [.int .i64 l,.int .i64 n]
theorem Zv (h:List Row) (r q:Nat) (hm:HM) (l n:Int) (d:D) (hr:h[r]?=some (.cells [d,.mref q])) (hq:h[q]?=some hm.row) (hl:∀row∈h,Row.low h.length row=true):
  FX 233 [.ref r 0,.v (Cz l n)] h [.v (IF (hm.get (l,n)))] h:=by
 refine Ak (D4 233) rfl (oN _) hl (by simp[D.lt]) ?_;have hmf:=Is l n hm.E;have hgi:=Fo (l,n) hm.E;have hr':=AV [.cells [.v (.int .i64 l),.v (.int .i64 n)],.cells [.v (.int .u64 0),.v (.bool false)]] hr;have hq':=AV [.cells [.v (.int .i64 l),.v (.int .i64 n)],.cells [.v (.int .u64 0),.v (.bool false)]] hq;simp only[Ai 233,AE,AF,AS,AA 233 0,AA 233 1,AQ];simp[Cz]
 try simp at hr'
 try simp at hq'
 simp[hr',hq',HM.row,hmf,Bj,V.eqL,V.eq1];cases hi:hm.E.findIdx? (λx=>x.fst==(l,n))with
 |none=>
  rw[hi]at hgi;simp[HM.get,hgi,Du,AB,AA 233 2,AW 233,AO,IF,D.one?,D.vs?,D.v?]
 |some i=>
  rw[hi]at hgi;have hlt:=(qu.1 hi).1;rw[pE,oI hlt]at hgi;simp[HM.get,hgi,hlt,Du,AB,AA 233 2,AW 233,IU,AO,IF,D.one?,D.vs?,D.v?]
theorem nB (h:List Row) (r q:Nat) (hm:HM) (d:D) (hr:h[r]?=some (.cells [d,.mref q])) (hq:h[q]?=some hm.row):
  FX 57 [.ref r 0] h [.v (.int .u64 ((hm.get (12,0)).getD 0))] h:=by
 refine Dh 57 ?_;have hmf:=Is 12 0 hm.E;have hgi:=Fo (12,0) hm.E;simp only[Ai 57,AE,AF,AS,AA 57 0,AA 57 1,AQ];simp[hr,hq,HM.row,hmf,Bj,V.eqL,V.eq1];cases hi:hm.E.findIdx? (λx=>x.fst==(12,0))with
 |none=>
  rw[hi]at hgi;simp[HM.get,hgi,Du,AB,AW 57]
 |some i=>
  rw[hi]at hgi;have hlt:=(qu.1 hi).1;rw[pE,oI hlt]at hgi;simp[HM.get,hgi,hlt,Du,AB,AW 57,IU]
theorem Z8 (l n:Int) (hl:0 <l∧l≤12) (hn:0≤n∧n≤4096):PX 181 [Cz l n] [Cz (l-1) (2*n),Cz (l-1) (2*n+1)]:=by
 refine BJ 181 ?_;have w1:IntKind.i64.wrap (l-1)=l-1:=AL;have w2:IntKind.i64.wrap (2*n)=2*n:=AL;have w3:IntKind.i64.wrap (2*n+1)=2*n+1:=AL;simp only[Ai 181,AE,AF,AA 181 0,AX];simp[Cz];rw[Bf];refine Bg _ (λs hs=>⟨s,.inl rfl,hs⟩) ?_;simp only[AA 181 1];simp[AO,w1,w2,w3,AB,AW 181,D.vs?,D.v?]
end Go.Va
