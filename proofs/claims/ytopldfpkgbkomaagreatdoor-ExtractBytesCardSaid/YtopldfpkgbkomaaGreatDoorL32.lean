/- Laws that ExtractBytes leans on, part 32. No condition of its own. -/
import Derived.Test.YtopldfpkgbkomaaGreatDoorL23
import Derived.Test.YtopldfpkgbkomaaGreatDoorL27
import Derived.Test.YtopldfpkgbkomaaGreatDoorL28
import Derived.Test.YtopldfpkgbkomaaGreatDoorL29
set_option linter.all false
set_option maxRecDepth 100000
set_option maxHeartbeats 4000000
noncomputable section
namespace Go.Va
open Go.Proofs
structure AltOK (T:List Clm):Prop where
 len:T.length≤32
 body:∀c∈T,c.body.ok∧c.body.tops.length≤64∧c.refs.length≤8
 low:∀(k:Nat) (c:Clm),T[k]?=some c→∀r∈c.refs,0≤r∧r <(k:Int)
 mka:∀(k:Nat) (c:Clm),T[k]?=some c→(∀r∈c.refs,∀a∈((Dk (T.take k))[r.toNat]?).getD [],∀b∈c.body.tops,(mkA a b).ok∧Bt (mkA a b)=0)
 pre:∀(k:Nat) (c:Clm),T[k]?=some c→∀j,j≤c.refs.length→((c.refs.take j).flatMap λr=>(((Dk (T.take k))[r.toNat]?).getD []).flatMap λa=>c.body.tops.map (mkA a)).length≤64
 one:∀(k:Nat) (c:Clm),T[k]?=some c→∀r∈c.refs,(((Dk (T.take k))[r.toNat]?).getD []).length≤64
theorem CsP.altOK {T:List Clm} (h:CsP T):AltOK T:=by
 have hk2:∀(k:Nat) (c:Clm),T[k]?=some c→k≤2:=λk c hk=>by
  have:=(qK.1 hk).1;have:=h.n;omega
 have hlB:∀k,k≤2→lB k≤32:=λk hk=>by
  have:=R9 hk;have e2:lB 2=32:=by decide
  omega
 refine⟨by have:=h.n;omega,λc hc=>?_,h.low,?_,?_,?_⟩
 ·have hcp:=h.cp c hc;exact⟨(hcp.body.ok (by decide) (by decide)).1,by have:=hcp.nt;omega,by have:=hcp.lr;omega⟩
 ·intro k c hk r hr a ha b hb;have h0:c.refs≠[]:=λe=>by rw[e]at hr;cases hr
  have hmem:mkA a b∈HL (Dk (T.take k)) c:=by
   unfold HL;rw[if_neg h0];exact rM.2 ⟨r,hr,rM.2 ⟨a,ha,qX.2 ⟨b,hb,rfl⟩⟩⟩
  have h2:=(LF T h.cp h.low k c hk).2 _ hmem;have hkk:=hk2 k c hk;have:=h2.all.ok (by omega) (by omega);exact⟨this.1,this.2.1⟩
 ·intro k c hk j hj;by_cases h0:c.refs=[]
  ·simp[h0]
  ·have h1:=(LF T h.cp h.low k c hk).1;have hkk:=hlB k (hk2 k c hk);have e:HL (Dk (T.take k)) c=c.refs.flatMap λr=>(((Dk (T.take k))[r.toNat]?).getD []).flatMap λa=>c.body.tops.map λb=>mkA a b:=by
    unfold HL;rw[if_neg h0]
   rw[e]at h1;have hle:((c.refs.take j).flatMap λr=>(((Dk (T.take k))[r.toNat]?).getD []).flatMap λa=>c.body.tops.map (mkA a)).length≤(c.refs.flatMap λr=>(((Dk (T.take k))[r.toNat]?).getD []).flatMap λa=>c.body.tops.map λb=>mkA a b).length:=by
    conv=>rhs;rw[←rJ j c.refs,rP,qG]
    exact Nat.le_add_right _ _
   omega
 ·intro k c hk r hr;have hrl:=h.low k c hk r hr;have hkk:=hk2 k c hk;have hkl:=(qK.1 hk).1;obtain⟨c',hc'⟩:∃c',T[r.toNat]?=some c':=⟨_,qH (by omega)⟩;have h2:=LE T hc' k (by omega) (by omega);rw[h2,qd];have h1:=(LF T h.cp h.low r.toNat c' hc').1;have:=hlB r.toNat (by omega);omega
theorem VC (p:Int) (hp:p <5) (i j:Nat) (hij:i <j) (hj:j <p.toNat):Hv ((i+p).tmod 5)≠Hv ((j+p).tmod 5):=by
 obtain⟨q,rfl⟩:∃q:Nat,p=q:=⟨p.toNat,by omega⟩;have hq:q <5:=by omega
 have hj':j <q:=by simpa using hj
 have:∀q:Nat,q <5→∀j:Nat,j <q→∀i:Nat,i <j→Hv (((i:Int)+(q:Int)).tmod 5)≠Hv (((j:Int)+(q:Int)).tmod 5):=by
  intro q hq j hj i hi;have h1:q=0∨q=1∨q=2∨q=3∨q=4:=by omega
  have h2:j=0∨j=1∨j=2∨j=3:=by omega
  have h3:i=0∨i=1∨i=2:=by omega
  rcases h1 with rfl|rfl|rfl|rfl|rfl<;>rcases h2 with rfl|rfl|rfl|rfl<;>rcases h3 with rfl|rfl|rfl<;>first|omega|decide
 exact this q hq j hj' i hij
theorem GD (l:List Int):(A7 l).Pairwise λa b=>a.file≠b.file:=by
 unfold A7;refine List.Pairwise.filter _ ?_;rw[List.pairwise_map];have hb:=El l 0 5 (by decide);refine List.Pairwise.imp_of_mem ?_ (tD (n:=(Ai l 0 5).toNat));intro i j hi hj hij;have h2:=qj.1 hj;exact VC (Ai l 0 5) hb.2 i j hij h2
theorem FT {l:List Int} {r:Rgt} (h:r∈A7 l):∃i,r=DI l i∧Ag r=true:=by
 unfold A7 at h;obtain⟨h1,h2⟩:=r9.1 h;obtain⟨i,_,rfl⟩:=qX.1 h1;exact⟨i,rfl,h2⟩
theorem Ii {l:List Int} {r:Rgt} (h:r∈A7 l):CsP r.claims:=by
 obtain⟨i,rfl,hf⟩:=FT h;have hz:=Ht hf;have e:∃m,(DI l i).claims=CX m:=⟨_,rfl⟩;obtain⟨m,hm⟩:=e;rw[hm]at hz ⊢;exact P2 m hz
theorem VL {r:Rgt} (h:r.tiny 3):(Bg r).length≤65536:=by
 have h1:=h.lc;have h2:=h.ld;have h3:=h.lb;have h4:=h.lo;have h5:=h.ll;have e0:=Fc h.claims;have e1:=AO r.file;have e2:=AO r.state;have e3:=AO r.force;have e4:=Aw (A8 r.claims).length;have e5:=AO r.dates.length;have e6:=Cr D1 r.dates;have e7:=Fb r.bad;have e8:=AO r.owners.length;have e9:=Cr Dz r.owners;have e10:=AO r.lics.length;have e11:=Cr D0 r.lics;simp only[Bg,AY,qG];omega
theorem Kb {r:Rgt} (h:Ag r=true):0≤r.file∧r.file≤4095:=by
 unfold Ag at h;simp only[qI]at h;have:=h.1.1.1.1.1.1.1.1.1;simp only[D5,decide_eq_true_eq]at this;omega
theorem DE {l:List Int} {r:Rgt} (h:r∈A7 l):r.tiny 3:=by
 obtain⟨i,rfl,_⟩:=FT h;exact KU l i
theorem Ol (l:List Int):∀j <(A7 l).length,Jy (A7 l) j=0:=by
 intro j hj;obtain⟨r,hr⟩:∃r,(A7 l)[j]?=some r:=⟨_,qH hj⟩;have hm:=qJ hr;obtain⟨_,_,hf⟩:=FT hm;have hpw:=GD l;have hany:((A7 l).take j).any (λq=>q.file==r.file)=false:=by
  rw[sD];intro q hq;have hsp:A7 l=(A7 l).take j++(A7 l).drop j:=(rJ j _).symm;rw[hsp,sJ]at hpw;have hrd:r∈(A7 l).drop j:=by
   refine qJ (i:=0) ?_;rw[rm,sd];exact hr
  have:=hpw.2.2 q hq r hrd;simpa using this
 have hfi:=Kb hf;have hle:=VL (DE hm);rw[Rv hr,hf,if_pos rfl,hany];simp only[qY,if_false];unfold I9;rw[if_pos hfi,if_neg (by omega)]
theorem Ok (l:List Int):Sj (A7 l)=0:=Mu (Ol l)
theorem S7 {l:List Rgt} (hp:l.Pairwise (λa b=>a.file≠b.file)) {r:Rgt} (hr:r∈l):l.find? (λq=>q.file==r.file)=some r:=by
 induction l with
 |nil=>cases hr
 |cons x l ih=>
  rw[List.pairwise_cons]at hp;rw[List.find?_cons];rcases qL.1 hr with rfl|hr
  ·simp
  ·have:=hp.1 r hr;rw[show (x.file==r.file)=false by simpa using this];exact ih hp.2 hr
theorem FZ {l:List Rgt} (hp:l.Pairwise (λa b=>a.file≠b.file)) {r:Rgt} (hr:r∈l):Ke l r.file=r:=by
 unfold Ke;rw[S7 hp hr];rfl
def Nc (l:List Rgt):List Rgt:=(Rb (l.map Rgt.file)).map (Ke l)
theorem IF {l:List Rgt} (hp:l.Pairwise (λa b=>a.file≠b.file)):(Nc l).Perm l:=by
 unfold Nc;have h1:(Rb (l.map Rgt.file)).Perm (l.map Rgt.file):=uQ _ _;have h2:=h1.map (Ke l);rw[uL]at h2;have e:l.map (Ke l ∘ Rgt.file)=l:=by
  conv=>rhs;rw[←List.map_id l]
  exact uM λr hr=>FZ hp hr
 rw[e]at h2;exact h2
theorem WS {l:List Rgt} (hp:l.Pairwise (λa b=>a.file≠b.file)):(Nc l).Pairwise (λa b=>a.file≠b.file):=
 (IF hp).symm.pairwise hp (λh=>Ne.symm h)
theorem QI {I:Int→Int→Bool} {t:Th} {rs:List Rgt} {c:Int×Int} (h:c∈CF I t rs):∃r∈rs,r.file=c.1∧0≤c.2∧c.2 <r.claims.length:=by
 unfold CF at h;obtain⟨r,hr,h⟩:=rM.1 h;unfold DB at h;obtain⟨i,hi,rfl⟩:=qX.1 h;have:=Lm (r9.1 hi).1;exact⟨r,hr,rfl,this.1,this.2⟩
theorem Ko (I:Int→Int→Bool) (t:Th) (n:Nat):∀rs:List Rgt,(∀r∈rs,r.claims.length≤n)→(CF I t rs).length≤n*rs.length
 |[],_=>by simp[CF]
 |y::l,hy=>by
  have h1:=Ko I t n l λz hz=>hy z (by simp[hz]);have h2:=hy y (by simp);have h3:=IM y;have h4:(DB I t y).length≤(D4 y).length:=by
   unfold DB;rw[qr];exact rT _ _
  unfold CF at h1 ⊢;rw[qN,qG,qT,td];omega
def MU:List V:=EF.map (AH .i64)
def oi:List Bool:=Dl 6 zb
def G6 (own:List Rgt):List Row:=im MU oi::Re (.ref 0 0) 1 own
section
def Xn (x:Ivl) (n d:Int):Bool:= !x.li&&(Hm n d x.ln x.ld||(decide (n=x.ln∧d=x.ld)&&x.lo))
def Xy (x:Ivl) (n d:Int):Bool:= !x.hi&&(Hm x.hn x.hd n d||(decide (n=x.hn∧d=x.hd)&&x.ho))
variable {c:Int}
theorem H2 {a b d:Int} (h1:En a b=true) (h2:En c d=true):decide (Ki a b c d <0)=Hm a b c d∧decide (Ki a b c d=0)=decide (a=c∧b=d)∧decide (0 <Ki a b c d)=Hm c d a b:=by
 have r:=LR h1 h2;unfold Ki P0 Hm;rw[h1,h2];simp only[Bool.and_self,if_true];by_cases c1:a*d <c*b
 ·have:¬c*b <a*d:=by omega
  have:¬(a=c∧b=d):=by rintro⟨rfl,rfl⟩;omega
  simp[*]
 ·by_cases c2:c*b <a*d
  ·have:¬(a=c∧b=d):=by rintro⟨rfl,rfl⟩;omega
   simp[*]
  ·have:=r (by omega);simp[*]
theorem XH {x:Ivl} (gx:Ep x=true) {n d:Int} (h:En n d=true):(!Xn x n d&& !Xy x n d)=N5 x n d:=by
 have q1:=JZ gx;have q2:=JY gx;obtain⟨ln,ld,hn,hd,lo,ho,li,hi⟩:=x;unfold Xn Xy N5;simp only at*;cases li with
 |false=>
  obtain⟨e1,e2,_⟩:=H2 h (C8 (q2 rfl));rw[e1,e2];cases hi with
  |false=>
   obtain⟨_,e4,e5⟩:=H2 h (C8 (q1 rfl));rw[e4,e5];simp
  |true=>simp
 |true=>
  cases hi with
  |false=>
   obtain⟨_,e4,e5⟩:=H2 h (C8 (q1 rfl));rw[e4,e5];simp
  |true=>simp
theorem jZ (x:Ivl) (gx:Ep x=true) (n d:Int) (h:En n d=true):PX 333 [x.V,BL n d] [.bool (N5 x n d)]:=by
 refine BU 333 ?_;rw[←XH gx h];have q1:=λhh=>(Wn x.hn x.hd n d (C8 (JZ gx hh)) h).fsp;have q2:=λhh=>(Wn n d x.ln x.ld h (C8 (JY gx hh))).fsp;obtain⟨A,hA⟩:∃A,Xn x n d=A:=⟨_,rfl⟩;obtain⟨B,hB⟩:∃B,Xy x n d=B:=⟨_,rfl⟩;rw[hA,hB];unfold Xn at hA;unfold Xy at hB;clear gx;obtain⟨ln,ld,hn,hd,lo,ho,li,hi⟩:=x;simp only[BL]at*;generalize Hm n d ln ld=L1 at*;generalize Hm hn hd n d=L2 at*
 let J:List Row:=[.cells [.v (.int .i64 ln),.v (.int .i64 ld),.v (.int .i64 hn),.v (.int .i64 hd),.v (.bool lo),.v (.bool ho),.v (.bool li),.v (.bool hi)],.cells [.v (.int .i64 n),.v (.int .i64 d)]]
 have fin:∀(Q:AExit→St→Prop),Q .ret ⟨[(4,.v (.bool (!A&& !B)))],J⟩→awp Tryz.prog An (.seq (.reg (oG 333 3) [4]) .ret) Q ⟨[(5,.v (.bool A)),(6,.v (.bool B))],J⟩:=by
  intro Q hQ;simp only[AE,AG,AA 333 3];cases A<;>cases B<;>simpa[AD]using hQ
 have st2:∀(Q:AExit→St→Prop),Q .ret ⟨[(4,.v (.bool (!A&& !B)))],J⟩→awp Tryz.prog An (.seq (.reg (oG 333 2) [5,6]) (.seq (.reg (oG 333 3) [4]) .ret)) Q ⟨[(2,.ref 0 0),(3,.ref 1 0),(5,.v (.bool A))],J⟩:=by
  intro Q hQ;have hf:=fin Q hQ;rw[AE,AG];simp only[AA 333 2,J]at hf ⊢;cases hi with
  |true=>
   simp at hB;subst hB;simpa using hf
  |false=>
   have q1:=q1 rfl;simp at q1;simp;refine⟨_,_,q1 _,?_⟩;cases L2 with
   |true=>
    simp at hB;subst hB;simpa using hf
   |false=>
    simp at hB;by_cases c1:n=hn
    ·by_cases c2:d=hd
     ·subst c1 c2;simp at hB;subst hB;simpa[V.eqL,V.eq1]using hf
     ·simp[c2]at hB;subst hB;simpa[V.eqL,V.eq1,c1,c2]using hf
    ·simp[c1]at hB;subst hB;simpa[V.eqL,V.eq1,c1]using hf
 simp only[At 333];rw[AE,AG];simp only[AA 333 0,AV];simp[Ivl.V];rw[AE,AG];simp only[AA 333 1];have hfin:=λQ=>st2 Q;simp only[J]at hfin;cases li with
 |true=>
  simp at hA;subst hA;simp;refine hfin _ ?_;simp[AX 333]
 |false=>
  have q2:=q2 rfl;simp at q2;simp;refine⟨_,_,q2 _,?_⟩;cases L1 with
  |true=>
   simp at hA;subst hA;simp;refine hfin _ ?_;simp[AX 333]
  |false=>
   simp at hA;by_cases c1:n=ln
   ·by_cases c2:d=ld
    ·subst c1 c2;simp at hA;subst hA;simp[V.eqL,V.eq1];refine hfin _ ?_;simp[AX 333]
    ·subst c1;simp[c2]at hA;subst hA;simp[V.eqL,V.eq1,c2];refine hfin _ ?_;simp[AX 333]
   ·simp[c1]at hA;subst hA;simp[V.eqL,V.eq1,c1];refine hfin _ ?_;simp[AX 333]
theorem ji (l:List Ivl) (hl:∀x∈l,x.ok) (hn:l.length≤2^40) (n d:Int) (h1:i64 n) (h2:i64 d):PX 313 [.list (l.map Ivl.V),BL n d] [.bool (U7 l n d)]:=by
 refine BU 313 ?_;obtain⟨R,hR⟩:∃R,U7 l n d=R:=⟨_,rfl⟩;rw[hR];unfold U7 at hR;have q1:=(Zl n d h1 h2).fsp;simp only[BL]at q1;simp at q1;simp only[Zw,At 313,AA 313 0,AA 313 1,AV,BL];simp;refine⟨_,_,q1 _,?_⟩;cases ho:En n d with
 |false=>
  rw[ho]at hR;simp at hR;simp[AD,AA 313 2,AX 313,hR]
 |true=>
  rw[ho]at hR;simp only[rC]at hR;simp[AB,AA 313 3];refine Ao l.length (λk=>⟨[(0,.v (.list (l.map Ivl.V))),(3,.ref 0 0),(5,.v (.int .i64 k))],[.cells [.v (.int .i64 n),.v (.int .i64 d)]]⟩) (λk=>∀x∈l.take k,(FY x&&N5 x n d)=false) (by simp) (by simp) ?_;intro k hk hI;simp only[Zw,BA 313 0,AA 313 4];simp;by_cases hlt:k <l.length
  ·obtain⟨x,hx⟩:∃x,l[k]?=some x:=⟨_,qH hlt⟩;have hxm:=qJ hx;have w1:=Bo k;have good:(FY x&&N5 x n d)=true→R=true:=λh=>by
    rw[←hR,sT];exact⟨x,hxm,h⟩
   have bad:(FY x&&N5 x n d)=false→∀y∈l.take (k+1),(FY y&&N5 y n d)=false:=λh y hy=>by
    rw[qc,hx]at hy;simp only[Option.toList_some,qW,qO]at hy;rcases hy with hy|rfl
    ·exact hI y hy
    ·exact h
   have q2:=(dK x (hl x hxm)).fsp;have q3:=λgx=>jZ x gx n d ho;rw[GQ]at q2 q3;rw[if_pos (by omega),AB];simp only[AW,AA 313 6];generalize FY x=g at*;generalize N5 x n d=b at*;obtain⟨ln,ld,hn,hd,lo,ho,li,hi⟩:=x;simp[Ivl.V,BL]at q2 q3;simp[hx,Ivl.V];refine⟨_,_,q2 _,?_⟩;simp only[AA 313 7];cases g with
   |false=>
    have bad:=bad rfl;simp[AB,AA 313 5,w1,hlt];exact λx hx h=>by simpa[h]using bad x hx
   |true=>
    simp[hx,Ivl.V];refine⟨_,_,⟨rfl,rfl⟩,_,(q3 rfl),?_⟩;cases b with
    |false=>
     have bad:=bad rfl;simp[AB,AA 313 5,w1,hlt];exact λx hx h=>by simpa[h]using bad x hx
    |true=>
     simp[AD,AA 313 8,AX 313,good rfl]
  ·have hk2:k=l.length:=by omega
   subst hk2;rw[if_neg (by omega),AJ];have:R=false:=by rw[←hR,sD];simpa using hI
   simp[AD,AA 313 9,AX 313,this]
end
theorem jj (t:Th) (ht:t.ok) (n:Int):PX 312 [t.V,.int .i64 n] [BL (MP t n).1 (MP t n).2,.bool (QS t n).isSome]:=by
 obtain⟨cs,vs,ps⟩:=t;obtain⟨_,h2,_,_,_⟩:=ht;refine BU 312 ?_;unfold MP;obtain⟨o,ho⟩:∃o,QS (.mk cs vs ps) n=o:=⟨_,rfl⟩;rw[ho];unfold QS at ho;simp only[Th.vs]at ho;simp only[At 312,AE,AG,AU,AA 312 0,AA 312 1,AV];simp[Th.V_eq];refine Ao vs.length (λk=>⟨[(1,.v (.int .i64 n)),(2,.ref 0 0),(4,.ref 1 0),(6,.v (.int .i64 k))],[.cells (Th.mk cs vs ps).cells,.cells [.v (.int .i64 0),.v (.int .i64 0)]]⟩) (λk=>(vs.drop k).find? (λx=>x.a==n)=o) (by simp[Th.cells,Th.cs,Th.vs,Th.ps]) (by simpa using ho) ?_;intro k hk hI;simp only[Zw,BA 312 0,AA 312 2,Th.cells,Th.cs,Th.vs,Th.ps];simp;by_cases hlt:k <vs.length
 ·obtain⟨x,hx⟩:∃x,vs[k]?=some x:=⟨_,qH hlt⟩;have w1:=Bo k;rw[If hx,List.find?_cons]at hI;rw[if_pos (by omega),AB];simp only[AA 312 4];simp[hx,Val.V];by_cases he:x.a=n
  ·simp[he]at hI;subst hI;simp[he,AA 312 5,AD,hx,Val.V,AS,AX 312,BL,D.vs?,D.v?]
  ·have he':(x.a==n)=false:=by simpa using he
   rw[he']at hI;simp[he,AB,AA 312 3,w1,hlt];exact hI
 ·have hk2:k=vs.length:=by omega
  subst hk2;simp at hI;subst hI;rw[if_neg (by omega),AJ];simp[AD,AA 312 6,AX 312,AS,BL,D.vs?,D.v?]
theorem SU (nc:Int) (op n:Int) (ins:List Ivl) (kids:List F):(F.mk op n ins kids).nodes.all (Jx nc)=(Jx nc (.mk op n ins kids)&&kids.all λk=>k.nodes.all (Jx nc)):=by
 rw[F.nodes_eq,tS,List.all_flatMap]
theorem kI (nc:Int):∀f:F,f.ok→PX 263 [f.V,.int .i64 nc] [.bool (f.nodes.all (Jx nc))]:=by
 refine F.ind λop n ins kids ih hok=>?_;refine BU 263 ?_;obtain⟨R,hR⟩:∃R,(F.mk op n ins kids).nodes.all (Jx nc)=R:=⟨_,rfl⟩;rw[hR];rw[SU]at hR;have hsz:=hok.2;rw[F.size_eq]at hsz;have hkl:=F.kids_len kids;obtain⟨K,hK⟩:∃K,Jx nc (.mk op n ins kids)=K:=⟨_,rfl⟩;rw[hK]at hR;have hK':K= !(decide (op=1)&&decide (nc≤n)):=hK.symm;have step:∀(Q:AExit→St→Prop),(K=false→Q .ret ⟨[(4,.v (.bool false))],[.cells (F.mk op n ins kids).cells]⟩)→(K=true→Q .normal ⟨[(1,.v (.int .i64 nc)),(2,.ref 0 0),(14,.v (.bool false))],[.cells (F.mk op n ins kids).cells]⟩)→
   awp Tryz.prog An (.seq (.reg (oG 263 1) [1,2,14]) (.cond (.t 14 false) (.seq (.reg (oG 263 2) [4]) .ret) .skip)) Q ⟨[(1,.v (.int .i64 nc)),(2,.ref 0 0)],[.cells (F.mk op n ins kids).cells]⟩:=by
  intro Q h1 h2;simp only[AE,AG,AL,AA 263 1,F.cells,F.op,F.n,F.ins,F.kids]at*;by_cases c1:op=1
  ·by_cases c2:nc≤n
   ·have hf:K=false:=by rw[hK'];simp[c1,c2]
    simpa[c1,c2,AE,AG,AD,AA 263 2]using h1 hf
   ·have hf:K=true:=by rw[hK'];simp[c2]
    simpa[c1,c2,AB]using h2 hf
  ·have hf:K=true:=by rw[hK'];simp[c1]
   simpa[c1,AB]using h2 hf
 simp only[At 263];rw[AE,AG];simp only[AA 263 0,AV];simp[F.V_eq];rw[AE];simp only[F.cells,F.op,F.n,F.ins,F.kids]at step;refine step _ ?_ ?_
 ·rintro rfl;simp at hR;simp[AX 263,hR]
 ·rintro rfl;simp only[rC]at hR;simp[AE,AU,AG,AA 263 3];refine Ao kids.length (λk=>⟨[(1,.v (.int .i64 nc)),(2,.ref 0 0),(5,.v (.int .i64 k))],[.cells (F.mk op n ins kids).cells]⟩) (λk=>∀x∈kids.take k,x.nodes.all (Jx nc)=true) (by simp[F.cells,F.op,F.n,F.ins,F.kids]) (by simp) ?_;intro k hk hI;simp only[Zw,BA 263 0,AA 263 4,F.cells,F.op,F.n,F.ins,F.kids];simp;by_cases h1:k <kids.length
  ·obtain⟨x,hx⟩:∃x,kids[k]?=some x:=⟨_,qH h1⟩;have hxm:=qJ hx;have hw:=Bo k;have p1:=(ih x hxm (F.ok_kid hok hxm)).fsp;have bad:x.nodes.all (Jx nc)=false→R=false:=λh=>by
    rw[←hR,List.all_eq_false];exact⟨x,hxm,by simp[h]⟩
   have good:x.nodes.all (Jx nc)=true→∀y∈kids.take (k+1),y.nodes.all (Jx nc)=true:=λh y hy=>by
    rw[qc,hx]at hy;simp only[Option.toList_some,qW,qO]at hy;rcases hy with hy|rfl
    ·exact hI y hy
    ·exact h
   rw[if_pos (by omega),AB];simp only[AA 263 6];generalize x.nodes.all (Jx nc)=g at*;obtain⟨xo,xn,xi,xk⟩:=x;simp[F.V_eq]at p1;simp[hx,F.V_eq];refine⟨_,_,p1 _,?_⟩;cases g with
   |false=>simp[AD,AA 263 7,AX 263,bad rfl]
   |true=>
    have good:=good rfl;simp only[qV]at good;simp[AB,AA 263 5,hw,h1];exact good
  ·have hk2:k=kids.length:=by omega
   subst hk2;rw[if_neg (by omega),AJ];have:R=true:=by rw[←hR,qV];simpa using hI
   simp[AD,AA 263 8,AX 263,this]
theorem kH (nc:Int):∀t:Th,t.ok→PX 264 [t.V,.int .i64 nc] [.bool (t.kinds nc)]:=by
 refine Th.ind λcs vs ps ih hok=>?_;obtain⟨ok1,ok2,ok3,ok4,ok5⟩:=hok;refine BU 264 ?_;obtain⟨R,hR⟩:∃R,(Th.mk cs vs ps).kinds nc=R:=⟨_,rfl⟩;rw[hR];rw[Th.kinds,Gn]at hR;simp only[At 264,AE,AG,AU,AA 264 0,AA 264 1,AV];simp[Th.V_eq];refine Ao cs.length (λk=>⟨[(1,.v (.int .i64 nc)),(2,.ref 0 0),(5,.v (.int .i64 k))],[.cells (Th.mk cs vs ps).cells]⟩) (λk=>∀x∈cs.take k,x <nc) (by simp[Th.cells,Th.cs,Th.vs,Th.ps]) (by simp) ?_;intro k hk hI;simp only[Zw,BA 264 0,AA 264 2,Th.cells,Th.cs,Th.vs,Th.ps,AH];simp;by_cases h1:k <cs.length
 ·obtain⟨x,hx⟩:∃x,cs[k]?=some x:=⟨_,qH h1⟩;have hxm:=qJ hx;have hw:=Bo k;rw[if_pos (by omega),AB];simp only[AA 264 4];simp[hx];by_cases c1:nc≤x
  ·have:R=false:=by
    rw[←hR,Bool.and_eq_false_iff];left;rw[List.all_eq_false];exact⟨x,hxm,by simpa using c1⟩
   simp[c1,AD,AA 264 5,AX 264,this]
  ·have good:∀y∈cs.take (k+1),y <nc:=λy hy=>by
    rw[qc,hx]at hy;simp only[Option.toList_some,qW,qO]at hy;rcases hy with hy|rfl
    ·exact hI y hy
    ·omega
   simp[c1,AB,AA 264 3,hw,h1];exact good
 ·have hk2:k=cs.length:=by omega
  subst hk2;have hA:(cs.all λc=> !decide (nc≤c))=true:=by
   rw[qV];intro x hx;have:=hI x (by simpa using hx);simp;omega
  rw[hA,rC]at hR;rw[if_neg (by omega),AJ];simp[AA 264 6];refine Ao ps.length (λk=>⟨[(1,.v (.int .i64 nc)),(2,.ref 0 0),(6,.v (.int .i64 k))],[.cells (Th.mk cs vs ps).cells]⟩) (λk=>∀x∈ps.take k,x.kinds nc=true) (by simp[Th.cells,Th.cs,Th.vs,Th.ps,AH]) (by simp) ?_;intro k hk hI;simp only[Zw,BA 264 1,AA 264 7,Th.cells,Th.cs,Th.vs,Th.ps,AH];simp;by_cases h1:k <ps.length
  ·obtain⟨x,hx⟩:∃x,ps[k]?=some x:=⟨_,qH h1⟩;have hxm:=qJ hx;have hw:=Bo k;have p1:=(ih x hxm (ok5 x hxm)).fsp;have bad:x.kinds nc=false→R=false:=λh=>by
    rw[←hR,List.all_eq_false];exact⟨x,hxm,by simp[h]⟩
   have good:x.kinds nc=true→∀y∈ps.take (k+1),y.kinds nc=true:=λh y hy=>by
    rw[qc,hx]at hy;simp only[Option.toList_some,qW,qO]at hy;rcases hy with hy|rfl
    ·exact hI y hy
    ·exact h
   rw[if_pos (by omega),AB];simp only[AA 264 9];generalize x.kinds nc=g at*;obtain⟨xc,xv,xp⟩:=x;simp[Th.V_eq,AH]at p1;simp[hx,Th.V_eq,AH];refine⟨_,_,p1 _,?_⟩;cases g with
   |false=>simp[AD,AA 264 10,AX 264,bad rfl]
   |true=>
    simp[AB,AA 264 8,hw,h1];exact good rfl
  ·have hk2:k=ps.length:=by omega
   subst hk2;rw[if_neg (by omega),AJ];have:R=true:=by rw[←hR,qV];simpa using hI
   simp[AD,AA 264 11,AX 264,this]
section
theorem Uz {l:List Int} {m:Int} (h:Ec l m=true) {x:Int} (hx:x∈l):0≤x:=by
 obtain⟨k,hk,hxk⟩:=List.getElem_of_mem hx;rcases (show x <0∨0≤x by omega)with c|c
 ·have hb:DA l m k=true:=by
   unfold DA;rw[decide_eq_true_iff];left;simp[List.getD,qH hk,hxk,c]
  unfold Ec at h;rw[ER hk hb]at h;cases h
 ·exact c
variable {k:Nat}
theorem H7 {α:Type} {l:List α} {x:α} (hx:l[k]?=some x) {p:α→Bool} (hI:∀y∈l.take k,p y=false) (h:p x=false):∀y∈l.take (k+1),p y=false:=by
 intro y hy;rw[qc,hx]at hy;simp only[Option.toList_some,qW,qO]at hy;rcases hy with hy|rfl
 ·exact hI y hy
 ·exact h
variable {nc:Int} {pa:List V}
theorem kG {I:Int→Int→Bool} (hI:∀a b,0≤a→a <nc→0≤b→b <nc→PX 311 [.list pa,.int .i64 a,.int .i64 b] [.bool (I a b)]):
  ∀f:F,f.ok→f.nodes.all BH=true→f.nodes.all (Jx nc)=true→∀t:Th,t.ok→t.formed=true→t.kinds nc=true→PX 265 [.list pa,f.V,t.V] [.bool (f.hold I t)]:=by
 refine F.ind λop n ins kids ih hok hfm hoc t ht htf htk=>?_;obtain⟨cs,vs,ps⟩:=t;have hq312:=jj _ ht n;have hvt:i64 (MP (.mk cs vs ps) n).1∧i64 (MP (.mk cs vs ps) n).2:=by
  unfold MP;cases h:QS (.mk cs vs ps) n with
  |none=>exact⟨by unfold i64;decide,by unfold i64;decide⟩
  |some x=>
   obtain⟨_,_,_,h4,_⟩:=ht;exact⟨(h4 x (List.mem_of_find?_eq_some h)).2.1,(h4 x (List.mem_of_find?_eq_some h)).2.2⟩
 have ht':=ht;obtain⟨ok1,ok2,ok3,ok4,ok5⟩:=ht';have htf':=htf;have htk':=htk;rw[Th.formed,Er]at htf;rw[Th.kinds,Gn]at htk;simp only[qI,qV]at htf htk;obtain⟨f1,f2,f3,f4⟩:=htf;obtain⟨g1,g2⟩:=htk;have hok1:=F.ok1_self hok;have hsz:=hok.2;rw[F.size_eq]at hsz;have hkl:=F.kids_len kids;rw[show (F.mk op n ins kids).nodes.all BH=(BH (.mk op n ins kids)&&kids.all EU) from Mm op n ins kids]at hfm;rw[SU]at hoc;simp only[qI,qV]at hfm hoc;obtain⟨m1,m2⟩:=hfm;obtain⟨o1,o2⟩:=hoc;have ihk:∀k∈kids,∀t:Th,t.ok→t.formed=true→t.kinds nc=true→PX 265 [.list pa,k.V,t.V] [.bool (k.hold I t)]:=λk hk t a b c=>ih k hk (F.ok_kid hok hk) (m2 k hk) (by rw[qV];exact o2 k hk) t a b c;clear ih;refine BU 265 ?_;obtain⟨R,hR⟩:∃R,(F.mk op n ins kids).hold I (.mk cs vs ps)=R:=⟨_,rfl⟩;rw[hR];unfold F.hold at hR;rw[NE,ND]at hR;simp only[Th.cs,Th.ps]at hR;simp only[At 265,AE,AG,AU,AA 265 0,AA 265 1,AV];simp[F.V_eq,Th.V_eq,AH];by_cases c1:op=1
 ·subst c1;simp at hR;have hn:0≤n∧n <nc:=by
   have h2:¬nc≤n:=λh=>by unfold Jx at o1;simp[F.op,F.n,h]at o1
   unfold BH at m1;simp[F.op,F.n,F.ins,F.kids]at m1;omega
  simp[AA 265 2,AL,AE,AG,AU,AA 265 3];refine Ao cs.length (λk=>⟨[(0,.v (.list pa)),(4,.ref 0 0),(5,.ref 1 0),(7,.v (.int .i64 k))],[.cells (F.mk 1 n ins kids).cells,.cells (Th.mk cs vs ps).cells]⟩) (λk=>∀x∈cs.take k,I x n=false) (by simp[F.cells,F.op,F.n,F.ins,F.kids,Th.cells,Th.cs,Th.vs,Th.ps,AH]) (by simp) ?_;intro k hk hI2;simp only[Zw,BA 265 0,AA 265 4,F.cells,F.op,F.n,F.ins,F.kids,Th.cells,Th.cs,Th.vs,Th.ps,AH];simp;by_cases h1:k <cs.length
  ·obtain⟨x,hx⟩:∃x,cs[k]?=some x:=⟨_,qH h1⟩;have hxm:=qJ hx;have hw:=Bo k;have hx1:=g1 x hxm;simp at hx1;have q:=hI x n (Uz f2 hxm) hx1 hn.1 hn.2;have good:I x n=true→R=true:=λh=>by rw[←hR,sT];exact⟨x,hxm,h⟩
   have bad:=H7 (p:=λx=>I x n) hx hI2;rw[if_pos (by omega),AB];simp only[AW,AA 265 6];generalize I x n=g at*;simp[hx];refine⟨_,_,⟨rfl,rfl⟩,_,q,?_⟩;cases g with
   |true=>simp[AD,AA 265 7,AX 265,good rfl]
   |false=>
    simp[AB,AA 265 5,hw,h1];exact bad rfl
  ·have hk2:k=cs.length:=by omega
   subst hk2;rw[if_neg (by omega),AJ];have:R=false:=by rw[←hR,sD];simpa using hI2
   simp[AD,AA 265 8,AX 265,this]
 by_cases c2:op=2
 ·subst c2;simp at hR;simp only[Th.V_eq,AH,BL]at hq312;have q2:=hq312.fsp;simp at q2;have hins:=ji ins hok1.2.2.1 hok1.2.2.2 _ _ hvt.1 hvt.2;simp only[BL]at hins;generalize (MP (.mk cs vs ps) n).1=a at*;generalize (MP (.mk cs vs ps) n).2=b at*;generalize (QS (.mk cs vs ps) n).isSome=g at*;generalize U7 ins a b=hb at*;have q3:=hins.fsp;simp at q3;simp[AA 265 2,AL,AE,AG,AA 265 9];simp only[AA 265 10];simp;refine⟨_,_,q2 _,?_⟩;simp[AS];simp only[AA 265 11];cases g with
  |false=>
   simp at hR;simp[AD,AX 265,hR]
  |true=>
   simp at hR;simp;refine⟨_,_,q3 _,?_⟩;simp[AD,AX 265,hR]
 by_cases c3:op=3
 ·subst c3;have hkids:∃x,kids=[x]:=by
   unfold BH at m1;simp[F.op,F.n,F.ins,F.kids]at m1;exact List.length_eq_one_iff.1 m1.2
  obtain⟨x,rfl⟩:=hkids;simp[F.hold1]at hR;simp[AA 265 2,AL,AE,AG,AU,AA 265 9,AA 265 12,AA 265 13];refine Ao ps.length (λk=>⟨[(0,.v (.list pa)),(4,.ref 0 0),(5,.ref 1 0),(10,.v (.int .i64 k))],[.cells (F.mk 3 n ins [x]).cells,.cells (Th.mk cs vs ps).cells]⟩) (λk=>∀y∈ps.take k,x.hold I y=false) (by simp[F.cells,F.op,F.n,F.ins,F.kids,Th.cells,Th.cs,Th.vs,Th.ps,AH]) (by simp) ?_;intro k hk hI2;simp only[Zw,BA 265 1,AA 265 14,F.cells,F.op,F.n,F.ins,F.kids,Th.cells,Th.cs,Th.vs,Th.ps,AH];simp;by_cases h1:k <ps.length
  ·obtain⟨y,hy⟩:∃y,ps[k]?=some y:=⟨_,qH h1⟩;have hym:=qJ hy;have hw:=Bo k;have q:=ihk x (by simp) y (ok5 y hym) (f4 y hym) (g2 y hym);have good:x.hold I y=true→R=true:=λh=>by rw[←hR,sT];exact⟨y,hym,h⟩
   have bad:=H7 (p:=λy=>x.hold I y) hy hI2;generalize F.hold I x y=g at*;rw[if_pos (by omega),AB];simp only[AW,AA 265 16];obtain⟨xo,xn,xi,xk⟩:=x;obtain⟨yc,yv,yp⟩:=y;simp only[F.V_eq,Th.V_eq,AH]at q;simp[hy,F.V_eq,Th.V_eq,AH];refine⟨_,_,⟨rfl,rfl⟩,_,q,?_⟩;cases g with
   |true=>simp[AD,AA 265 17,AX 265,good rfl]
   |false=>
    simp[AB,AA 265 15,hw,h1];exact bad rfl
  ·have hk2:k=ps.length:=by omega
   subst hk2;rw[if_neg (by omega),AJ];have:R=false:=by rw[←hR,sD];simpa using hI2
   simp[AD,AA 265 18,AX 265,this]
 have qk:=λk hk=>ihk k hk _ ht htf' htk';clear ihk;by_cases c4:op=4
 ·subst c4;simp at hR;simp[AA 265 2,AL,AE,AG,AU,AA 265 9,AA 265 12,AA 265 19,AA 265 20];refine Ao kids.length (λk=>⟨[(0,.v (.list pa)),(4,.ref 0 0),(5,.ref 1 0),(11,.v (.int .i64 k))],[.cells (F.mk 4 n ins kids).cells,.cells (Th.mk cs vs ps).cells]⟩) (λk=>∀y∈kids.take k,(!y.hold I (.mk cs vs ps))=false) (by simp[F.cells,F.op,F.n,F.ins,F.kids,Th.cells,Th.cs,Th.vs,Th.ps,AH]) (by simp) ?_;intro k hk hI2;simp only[Zw,BA 265 2,AA 265 21,F.cells,F.op,F.n,F.ins,F.kids,Th.cells,Th.cs,Th.vs,Th.ps,AH];simp;by_cases h1:k <kids.length
  ·obtain⟨y,hy⟩:∃y,kids[k]?=some y:=⟨_,qH h1⟩;have hym:=qJ hy;have hw:=Bo k;have q:=qk y hym;have good:y.hold I (.mk cs vs ps)=false→R=false:=λh=>by rw[←hR,List.all_eq_false];exact⟨y,hym,by simp[h]⟩
   have bad:=H7 (p:=λy=> !y.hold I (.mk cs vs ps)) hy hI2;generalize F.hold I y (.mk cs vs ps)=g at*;rw[if_pos (by omega),AB];simp only[AW,AA 265 23];obtain⟨yo,yn,yi,yk⟩:=y;simp only[F.V_eq,Th.V_eq,AH]at q;simp[hy,F.V_eq];refine⟨_,_,⟨rfl,rfl⟩,_,q,?_⟩;cases g with
   |false=>simp[AD,AA 265 24,AX 265,good rfl]
   |true=>
    have bad:=bad rfl;simp only[Bool.not_eq_false']at bad;simp[AB,AA 265 22,hw,h1];exact bad
  ·have hk2:k=kids.length:=by omega
   subst hk2;rw[if_neg (by omega),AJ];have:R=true:=by rw[←hR,qV];simpa using hI2
   simp[AD,AA 265 25,AX 265,this]
 by_cases c5:op=5
 ·subst c5;simp at hR;simp[AA 265 2,AL,AE,AG,AU,AA 265 9,AA 265 12,AA 265 19,AA 265 26,AA 265 27];refine Ao kids.length (λk=>⟨[(0,.v (.list pa)),(4,.ref 0 0),(5,.ref 1 0),(12,.v (.int .i64 k))],[.cells (F.mk 5 n ins kids).cells,.cells (Th.mk cs vs ps).cells]⟩) (λk=>∀y∈kids.take k,y.hold I (.mk cs vs ps)=false) (by simp[F.cells,F.op,F.n,F.ins,F.kids,Th.cells,Th.cs,Th.vs,Th.ps,AH]) (by simp) ?_;intro k hk hI2;simp only[Zw,BA 265 3,AA 265 28,F.cells,F.op,F.n,F.ins,F.kids,Th.cells,Th.cs,Th.vs,Th.ps,AH];simp;by_cases h1:k <kids.length
  ·obtain⟨y,hy⟩:∃y,kids[k]?=some y:=⟨_,qH h1⟩;have hym:=qJ hy;have hw:=Bo k;have q:=qk y hym;have good:y.hold I (.mk cs vs ps)=true→R=true:=λh=>by rw[←hR,sT];exact⟨y,hym,h⟩
   have bad:=H7 (p:=λy=>y.hold I (.mk cs vs ps)) hy hI2;generalize F.hold I y (.mk cs vs ps)=g at*;rw[if_pos (by omega),AB];simp only[AW,AA 265 30];obtain⟨yo,yn,yi,yk⟩:=y;simp only[F.V_eq,Th.V_eq,AH]at q;simp[hy,F.V_eq];refine⟨_,_,⟨rfl,rfl⟩,_,q,?_⟩;cases g with
   |true=>simp[AD,AA 265 31,AX 265,good rfl]
   |false=>
    simp[AB,AA 265 29,hw,h1];exact bad rfl
  ·have hk2:k=kids.length:=by omega
   subst hk2;rw[if_neg (by omega),AJ];have:R=false:=by rw[←hR,sD];simpa using hI2
   simp[AD,AA 265 32,AX 265,this]
 by_cases c6:op=6
 ·subst c6;have hkids:∃x,kids=[x]:=by
   unfold BH at m1;simp[F.op,F.n,F.ins,F.kids]at m1;exact List.length_eq_one_iff.1 m1.2
  obtain⟨x,rfl⟩:=hkids;simp[F.hold1]at hR;have q:=qk x (by simp);generalize F.hold I x (.mk cs vs ps)=g at*;obtain⟨xo,xn,xi,xk⟩:=x;simp only[F.V_eq,Th.V_eq,AH]at q;simp[AA 265 2,AL,AE,AG,AA 265 9,AA 265 12,AA 265 19,AA 265 26,AA 265 33];simp only[AW,AA 265 34];simp[F.V_eq];refine⟨_,_,⟨rfl,rfl⟩,_,q,?_⟩;simp[AD,AX 265,hR]
 ·simp[c1,c2,c3,c4,c5,c6]at hR;simp[c1,c2,c3,c4,c5,c6,AA 265 2,AL,AE,AG,AA 265 9,AA 265 12,AA 265 19,AA 265 26,AA 265 33,AB,AA 265 35,AD,AX 265,hR]
theorem Zj {I:Int→Int→Bool} (hp:pa.length≤2^40) (hI:∀a b:Int,0≤a→a <pa.length→0≤b→b <pa.length→PX 311 [.list pa,.int .i64 a,.int .i64 b] [.bool (I a b)])
  (f:F) (hf:f.ok) (t:Th) (ht:t.ok) (hs:t.size≤2^40):PX 164 [.list pa,f.V,t.V] [.bool (decide (Lr pa.length f t=0)&&f.hold I t),.int .i64 (Lr pa.length f t)]:=by
 refine BU 164 ?_;obtain⟨E,hE⟩:∃E,Lr pa.length f t=E:=⟨_,rfl⟩;have q1:=(Wp f hf).fsp;have q2:=(Zo t ht hs).fsp;have q3:=(kI pa.length f hf).fsp;have q4:=(kH pa.length t ht).fsp;have q5:=λh1 h2 h3 h4=>(kG hI f hf (aM h1) h2 t ht h3 h4).fsp;have hform:F5 t=0→t.formed=true:=λh=>by
  unfold F5 at h;split at h
  ·split at h
   ·assumption
   ·cases h
  ·cases h
 rw[hE];unfold Lr at hE;generalize Bt f=e1 at*;generalize F5 t=e2 at*;generalize f.nodes.all (Jx pa.length)=O at*;generalize t.kinds pa.length=K at*;generalize f.hold I t=B at*;generalize t.formed=T at*;obtain⟨op,n,ins,kids⟩:=f;obtain⟨cs,vs,ps⟩:=t;simp only[F.V_eq,Th.V_eq,AH]at*;simp at q1 q2 q3 q4;simp only[At 164,AE,AG,AL,AA 164 0,AA 164 1,AV];simp;refine⟨_,_,q1 _,?_⟩;by_cases b1:e1=0
 ·subst b1;simp at hE;simp[AA 164 2,AB];simp only[AA 164 4];simp;refine⟨_,_,q2 _,?_⟩;by_cases b2:e2=0
  ·subst b2;simp at hE;simp[AA 164 5];simp only[AA 164 7];simp;refine⟨_,_,q3 _,?_⟩;cases O with
   |false=>
    simp at hE;subst hE;simp[AD,AA 164 8,AX 164]
   |true=>
    simp;refine⟨_,_,q4 _,?_⟩;cases K with
    |false=>
     simp at hE;subst hE;simp[AD,AA 164 8,AX 164]
    |true=>
     simp at hE;subst hE;have q:=q5 rfl rfl (hform rfl) rfl;simp at q;simp;simp only[AA 164 9];simp;refine⟨_,_,q _,?_⟩;simp[AD,AX 164]
  ·simp[b2]at hE;subst hE;simp[AA 164 5,b2,AD,AA 164 6,AX 164]
 ·simp[b1]at hE;subst hE;simp[AA 164 2,b1,AD,AA 164 3,AX 164]
end
end Go.Va
