/- Laws that ExtractBytes leans on, part 39. No condition of its own. -/
import Derived.Test.YtopldfpkgbkomaaGreatDoorL26
import Derived.Test.YtopldfpkgbkomaaGreatDoorL35
import Derived.Test.YtopldfpkgbkomaaGreatDoorL36
set_option linter.all false
set_option maxRecDepth 100000
set_option maxHeartbeats 4000000
noncomputable section
namespace Go.Va
open Go.Proofs
open Go.Proofs
section
theorem cW (r:Rgt):r.cs.length=8:=rfl
variable {i:Nat}
theorem TY {L:List Rgt} {x:Rgt} (k:Nat) (hx:L[i]?=some x):List.take 8 (List.drop (i*8) (List.map D.copy ((L.flatMap Rgt.cs).map .v++List.replicate k .any)))=x.cs.map D.v:=by
 have hi:i <L.length:=(qK.1 hx).1;have hl:=FO cW L;have hc:List.map D.copy ((L.flatMap Rgt.cs).map D.v)=(L.flatMap Rgt.cs).map D.v:=by simp[tH,D.copy]
 rw[qh,hc,List.drop_append_of_le_length (by rw[qr,hl];omega),sk (by rw[List.length_drop,qr,hl];omega),←ro,←rE,Lt cW L i x hx]
theorem RA {L:List Rgt} (k:Nat) (S:Rgt) (hi:i <L.length):
  AS ((L.flatMap Rgt.cs).map D.v++List.replicate k .any) (i*8) (S.cs.map D.v)=((L.set i S).flatMap Rgt.cs).map .v++List.replicate k .any:=by
 have hl:=FO cW L;have hcl:(S.cs.map D.v).length=8:=rfl;unfold AS;rw[hcl,sk (by rw[qr,hl];omega),List.drop_append_of_le_length (by rw[qr,hl];omega),←rE,←ro,←KA cW L i S hi];simp
theorem Kz:∀l:List V,D.vs? (l.map D.v)=some l
 |[]=>rfl
 |x::l=>by
  have ih:=Kz l;simp[D.vs?,D.v?,ih]
section
variable (x:Ext) (how at_ by_:Int) (hx:x.nice 3 1048576)
include hx
def ib (ys:List V):AExit→St→Prop:=λe s=>(match e with| .exit _=>False|_=>True)∧∃(ds cs:List D) (i r m sz:Nat) (xs:List V),DS s (gR 36)=some [.agg ds]∧ds[i]?=some (.sref r m)∧s.h[r]?=some (.cells cs)∧xs.length=m∧(∀x∈xs,x.cells.length=sz)∧
   D.vs? (cs.take (m*sz))=some (xs.flatMap V.cells)∧ds.set i (.v (.list xs))=ys.map .v
theorem ir (hrs:x.rs≠[]) (h5:Aj how 12=5) (i:Nat) (hi:Aj at_ x.rs.length=i) (r:Rgt) (hr:x.rs[i]?=some r):
  awp Tryz.prog An (gA 36) (ib ({x with rs:=x.rs.set i (FQ r (IntKind.i64.wrap (how.tdiv 12)) by_)}:Ext).cs) ⟨Ab [.v x.V,.v (.int .i64 how),.v (.int .i64 at_),.v (.int .i64 by_)],[]⟩:=by
 obtain⟨P,hP⟩:∃P,ib ({x with rs:=x.rs.set i (FQ r (IntKind.i64.wrap (how.tdiv 12)) by_)}:Ext).cs=P:=⟨_,rfl⟩;rw[hP];refine UW x how at_ by_ hx true false (λ_=>rfl) (λ_=>hrs) (λh=>by cases h) _ ?_;intro k;have hlen:0 <x.rs.length:=List.length_pos_iff.2 hrs;obtain⟨hil,hg⟩:=qK.1 hr;have q2:=(MW how 12 (by decide)).fsp;rw[h5]at q2;have q3:=(MW at_ x.rs.length (by omega)).fsp;rw[hi]at q3;have q4:=(pZ r (hx.rs r (qJ hr)) (by decide) (IntKind.i64.wrap (how.tdiv 12)) by_);generalize FQ r (IntKind.i64.wrap (how.tdiv 12)) by_=S at*;have hld:=TY k hr;have hst:=RA k S hil;have hl:=FO cW x.rs;have hl2:i*8+8≤((x.rs.flatMap Rgt.cs).map D.v++List.replicate k D.any).length:=by rw[qG,qr,hl];omega
 obtain⟨Z,hZ⟩:∃Z,((x.rs.set i S).flatMap Rgt.cs).map D.v++List.replicate k D.any=Z:=⟨_,rfl⟩;rw[hZ]at hst;generalize (x.rs.flatMap Rgt.cs).map D.v++List.replicate k D.any=ds at*;have hV:∀r:Rgt,r.V= .agg r.cs:=λ_=>rfl;have hvs:∀r:Rgt,D.vs? (r.cs.map D.v)=some r.cs:=λ_=>rfl;have htr:∀r:Rgt,List.map (D.toRow ∘ D.v) r.cs=r.cs.map D.v:=λ_=>rfl;have hcl:(S.cs.map D.v).length=8:=rfl;have hVc:∀r:Rgt,r.cs.length=8:=λ_=>rfl;rw[hV,hV]at q4;simp at q2 q3;simp only[Zw,Fg,OJ,la,AC.R,AA 36 7,gJ];simp;refine⟨_,_,q2 _,?_⟩;simp only[AA 36 9,AA 36 11,AA 36 13,AA 36 15,AA 36 17,AA 36 19,AA 36 20];simp[DX,hlen];simp only[AA 36 21];simp;refine⟨_,_,q3 _,?_⟩;simp only[AW,AA 36 22];simp[hil,hl2,hld,hvs];refine⟨_,_,⟨rfl,rfl⟩,_,q4,?_⟩;simp[hVc,htr,hst];simp only[AA 36 39];simp[ZI,AS,AD];rw[←hP];have hxl:(x.rs.set i S).length=x.rs.length:=rD;refine⟨trivial,[.v (.int .i64 x.kind),.v (.int .i64 x.file),.v (.int .i64 x.party),.v (.int .i64 x.day),.v (AH .i64 x.t.cs),.v (.list (x.t.vs.map Val.V)),.v (.list (x.t.ps.map Th.V)),.sref 2 x.rs.length,.v (.list (x.cl.map Bh)),.v (.list (x.fs.map (.int .i64))),.v (.list (x.L.map (.int .u64))),.v (.list (x.R.map (.int .u64))),.v (.list (x.S.map (.int .u8)))],Z,7,2,x.rs.length,8,(x.rs.set i S).map Rgt.V,?_,rfl,rfl,by simp,?_,?_,?_⟩
 ·simp[AX 36,D.one?,Mf,Mc,Ln,LT,MM]
 ·intro v hv;obtain⟨q,_,rfl⟩:=qX.1 hv;rfl
 ·have h1:x.rs.length*8=((x.rs.set i S).flatMap Rgt.cs).length:=by rw[FO cW,hxl]
  rw[←hZ,Om,h1,List.take_left' (by simp)];exact Kz _
 ·rfl
theorem ip (hS:x.S≠[]) (h10:Aj how 12=10) (i:Nat) (hi:Aj at_ x.S.length=i) (c:Int) (hc:x.S[i]?=some c):
  awp Tryz.prog An (gA 36) (ib ({x with S:=x.S.set i (1-(if 1 <c then 1 else c))}:Ext).cs) ⟨Ab [.v x.V,.v (.int .i64 how),.v (.int .i64 at_),.v (.int .i64 by_)],[]⟩:=by
 obtain⟨b0,b1⟩:=hx.S c (qJ hc);obtain⟨d,hd⟩:∃d,1-(if 1 <c then 1 else c)=d:=⟨_,rfl⟩;have hw:IntKind.u8.wrap d=d:=Ky (by rw[←hd];split<;>omega) (by rw[←hd];split<;>omega)
 obtain⟨P,hP⟩:∃P,ib ({x with S:=x.S.set i (1-(if 1 <c then 1 else c))}:Ext).cs=P:=⟨_,rfl⟩;rw[hP];rw[hd]at hP;refine UW x how at_ by_ hx false true (λh=>by cases h) (λh=>by cases h) (λ_=>hS) _ ?_;intro k;have hlen:0 <x.S.length:=List.length_pos_iff.2 hS;have hl6:=hx.lS;obtain⟨hil,hg⟩:=qK.1 hc;have q2:=(MW how 12 (by decide)).fsp;rw[h10]at q2;have q3:=(MW at_ x.S.length (by omega)).fsp;rw[hi]at q3;obtain⟨Z,hZ⟩:∃Z,((x.S.set i d).map (V.int .u8)).map D.v++List.replicate k D.any=Z:=⟨_,rfl⟩;have hst:AS ((x.S.map (V.int .u8)).map D.v++List.replicate k D.any) i [.v (.int .u8 d)]=Z:=by
  have h1:AS ((x.S.map (V.int .u8)).map D.v++List.replicate k D.any) i [.v (.int .u8 d)]=((x.S.map (V.int .u8)).map D.v++List.replicate k D.any).set i (.v (.int .u8 d)):=by
   rw[s9,if_pos (by simp;omega)];simp[AS]
  rw[h1,←hZ,rp _ _ (by simpa using hil)];simp
 have hld:((x.S.map (V.int .u8)).map D.v++List.replicate k D.any)[i]?=some (.v (.int .u8 c)):=by
  rw[qe (by simpa using hil)];simp[hg,hil]
 have hl2:i+1≤((x.S.map (V.int .u8)).map D.v++List.replicate k D.any).length:=by simp;omega
 generalize (x.S.map (V.int .u8)).map D.v++List.replicate k D.any=ds at*;simp at q2 q3;simp only[Zw,Fg,OJ,la,AC.R,AA 36 7,gJ];simp;refine⟨_,_,q2 _,?_⟩;simp only[AA 36 9,AA 36 11,AA 36 13,AA 36 15,AA 36 17,AA 36 19,AA 36 23,AA 36 26,AA 36 28,AA 36 30,AA 36 35,AA 36 36];simp[DX,hlen];simp only[AA 36 37];simp;refine⟨_,_,q3 _,?_⟩;simp only[AW,AA 36 38];simp[hil,hl2,hld];rw[hd,hw,hst];simp only[AA 36 39];simp[ZI,AS,AD];rw[←hP];have hxl:(x.S.set i d).length=x.S.length:=rD;refine⟨trivial,[.v (.int .i64 x.kind),.v (.int .i64 x.file),.v (.int .i64 x.party),.v (.int .i64 x.day),.v (AH .i64 x.t.cs),.v (.list (x.t.vs.map Val.V)),.v (.list (x.t.ps.map Th.V)),.v (.list (x.rs.map Rgt.V)),.v (.list (x.cl.map Bh)),.v (.list (x.fs.map (.int .i64))),.v (.list (x.L.map (.int .u64))),.v (.list (x.R.map (.int .u64))),.sref 2 x.S.length],Z,12,2,x.S.length,1,(x.S.set i d).map (.int .u8),?_,rfl,rfl,by simp,?_,?_,?_⟩
 ·simp[AX 36,D.one?,Mw,Mf,Mc,Ln,LT]
 ·intro v hv;obtain⟨q,_,rfl⟩:=qX.1 hv;rfl
 ·rw[←hZ,Nx,Nat.mul_one,List.take_left' (by simp)];exact Kz _
 ·rfl
theorem pR (hw:x.t.wee) (hsz:x.t.size≤100) (hh:i64 how) (ha:i64 at_) (hb:i64 by_):
  ∃y:Ext,y.nice 4 1048577∧PX 36 [x.V,.int .i64 how,.int .i64 at_,.int .i64 by_] [y.V]:=by
 have up:=hx.up;by_cases h5:Aj how 12=5∧x.rs≠[]
 ·obtain⟨h5,hrs⟩:=h5;have hlen:0 <x.rs.length:=List.length_pos_iff.2 hrs;have g1:=CU at_ x.rs.length ha;have g2:=(Ck at_ x.rs.length (by omega)).2;obtain⟨i,hi⟩:∃i:Nat,Aj at_ x.rs.length=i:=⟨(Aj at_ x.rs.length).toNat,by omega⟩;obtain⟨r,hr⟩:∃r,x.rs[i]?=some r:=⟨_,qH (by omega)⟩;refine⟨{x with rs:=x.rs.set i (FQ r (IntKind.i64.wrap (how.tdiv 12)) by_)},{up with rs:=λq hq=>?_,lr:=by simp only[rD];exact up.lr},Gf (args:=[_,_,_,_]) (rets:=[_]) (K8 (KN 36) rfl (ir x how at_ by_ hx hrs h5 i hi r hr))⟩
  ·rcases rn hq with hq|rfl
   ·exact up.rs q hq
   ·exact Of (hx.rs r (qJ hr)) (by decide) _ _ hb
 ·by_cases h10:Aj how 12=10∧x.S≠[]
  ·obtain⟨h10,hS⟩:=h10;have hlen:0 <x.S.length:=List.length_pos_iff.2 hS;have g1:=CU at_ x.S.length ha;have g2:=(Ck at_ x.S.length (by omega)).2;obtain⟨i,hi⟩:∃i:Nat,Aj at_ x.S.length=i:=⟨(Aj at_ x.S.length).toNat,by omega⟩;obtain⟨c,hc⟩:∃c,x.S[i]?=some c:=⟨_,qH (by omega)⟩;have hcb:=hx.S c (qJ hc);refine⟨{x with S:=x.S.set i (1-(if 1 <c then 1 else c))},{up with S:=λq hq=>?_,lS:=by simp only[rD];exact up.lS},Gf (args:=[_,_,_,_]) (rets:=[_]) (K8 (KN 36) rfl (ip x how at_ by_ hx hS h10 i hi c hc))⟩
   ·rcases rn hq with hq|rfl
    ·exact up.S q hq
    ·split<;>omega
  ·exact jT x how at_ by_ hx hw hsz hh ha hb h5 h10
end
end
def RL:Row:= .cells [.ref 2 0]
section
variable (C0 C1 T:Row) (c0 c1 c2 c3 c4 c5 c6:D)
def WJ (rs:List Rgt):Row:= .cells [c0,c1,c2,c3,c4,c5,c6,.own 74 8 (rs.map Rgt.V),.own 76 2 [],.own 3 1 [],.own 47 1 [],.own 47 1 [],.own 5 1 []]
def Lw (N j:Nat):CH:=[(1,.ref 0 0),(2,.ref 1 0),(4,.ref 3 0),(5,.func 109 [.ref 3 0,.ref 0 0]),(6,.ref 4 0),(7,.ref 5 0),(8,.func 110 [.ref 5 0]),(41,.v (.int .i64 N)),(42,.v (.int .i64 j))]
theorem me (N:Nat) (hN:N≤2^30):∀(k:Nat) (s:RS) (β:Bool) (rs:List Rgt) (J:List Row),rs.length+k=N→s.B→s.1.length≤2^30→
  awp Tryz.prog An (.loop (lG 43 0)) (λe st=>e= .exit 0∧AF st.e 2= .ref 1 0∧AF st.e 7= .ref 5 0∧
    (∀y,β=false→TM k s=some y→AF st.e 1= .ref 0 0∧AF st.e 4= .ref 3 0∧AF st.e 5= .func 109 [.ref 3 0,.ref 0 0]∧AF st.e 6= .ref 4 0∧AF st.e 8= .func 110 [.ref 5 0]∧
     ∃J,st.h=C0::C1::y.2.row::RL::WJ c0 c1 c2 c3 c4 c5 c6 (rs++y.1):: .cells [.v (.bool false)]::T::J)∧
    (β=true∨TM k s=none→∃X2 X3 X4 J,st.h=C0::C1::X2::X3::X4:: .cells [.v (.bool true)]::J))
   ⟨Lw N rs.length,C0::C1::s.row::RL::WJ c0 c1 c2 c3 c4 c5 c6 rs:: .cells [.v (.bool β)]::T::J⟩:=by
 intro k;induction k with
 |zero=>
  intro s β rs J hl hB hsl;refine Aa ?_;simp only[Zw,BA 43 0,AA 43 10,Lw];have h1:¬((rs.length:Int) <N):=by omega
  simp[h1,AJ,TM]
 |succ k ih=>
  intro s β rs J hl hB hsl;have h1:rs.length <N:=by omega
  have hw:IntKind.i64.wrap ((rs.length:Int)+1)=rs.length+1:=AQ;have hroom:AK (rs.length+1) 144=true:=by simp[AK];omega
  have q1:=M2 s hB (by omega) (C0::C1::s.row::RL::WJ c0 c1 c2 c3 c4 c5 c6 rs:: .cells [.v (.bool β)]::T::J) 2 rfl;have b1:=hB.suf (CL s);have l1:=(CL s).length_le;have q2:=(eK (Bl s).1 (FU hB) (by have:=DZ s;omega)).fsp;have ih:=λβ rs J h=>ih (Bl s).2 β rs J h b1 (by omega);rw[TM];simp only[List.set_cons_succ,List.set_cons_zero]at q1;generalize (Bl s).1=raw at*;generalize (Bl s).2=s1 at*;generalize dR raw=R at*;have q3:=λX f=>Zn (C0::C1::s1.row::RL::WJ c0 c1 c2 c3 c4 c5 c6 rs:: .cells [.v (.bool β)]::T::(J++[X])) 5 f β rfl;simp only[List.set_cons_succ,List.set_cons_zero]at q3;have hR:RL= .cells [.ref 2 0]:=rfl;cases R with
  |none=>
   refine Aa ?_;simp only[Nl,cQ,Rgt.V,Rgt.cs,AH]at q2;simp at q2;simp only[Zw,BA 43 0,AA 43 10,Lw];simp[h1,AB];simp only[AA 43 11];simp[hR];rw[←hR];refine⟨_,_,q1,?_⟩;simp;refine⟨_,_,q2 _,?_⟩;simp[AS,D.toRow];simp only[AA 43 12];simp;refine⟨_,_,(q3 _ _),?_⟩;simp only[AA 43 13];simp[AJ]
  |some r=>
   simp only[Nl,Rgt.V,Rgt.cs,AH]at q2;simp at q2;cases β with
   |true=>
    refine Aa ?_;simp only[Zw,BA 43 0,AA 43 10,Lw];simp[h1,AB];simp only[AA 43 11];simp[hR];rw[←hR];refine⟨_,_,q1,?_⟩;simp;refine⟨_,_,q2 _,?_⟩;simp[AS,D.toRow];simp only[AA 43 12];simp;refine⟨_,_,(q3 _ _),?_⟩;simp only[AA 43 13];simp[AJ]
   |false=>
    have ih:=ih false (rs++[r]) (J++[.cells (r.cs.map .v)]) (by simp;omega);simp only[qg,tN,qG,qT,ra,rt]at ih;refine A5 (s1:=⟨Lw N (rs.length+1),C0::C1::s1.row::RL::WJ c0 c1 c2 c3 c4 c5 c6 (rs++[r]):: .cells [.v (.bool false)]::T::(J++[.cells (r.cs.map .v)])⟩) ?_ ?_
    ·simp only[Zw,BA 43 0,AA 43 10,Lw];simp[h1,AB];simp only[AA 43 11];simp[hR];rw[←hR];refine⟨_,_,q1,?_⟩;simp;refine⟨_,_,q2 _,?_⟩;simp[AS,D.toRow];simp only[AA 43 12];simp;refine⟨_,_,(q3 _ _),?_⟩;simp only[AA 43 13];simp;simp only[AA 43 14];simp[WJ,D.vs?,D.v?,hroom];simp only[AA 43 15];simp[hw,Rgt.V,Rgt.cs,AH]
    ·refine AZ _ ?_ ih;rintro e st ⟨g0,g1,g2,g3,g4⟩;refine⟨g0,g1,g2,λy _ hy=>?_,λh=>?_⟩
     ·obtain⟨y',hy',rfl⟩:=qQ.1 hy;exact g3 y' trivial hy'
     ·refine g4 (.inr ?_);rcases h with h|h
      ·cases h
      ·exact Option.map_eq_none_iff.1 h
end
section
theorem isB.encE {x:Ext} (h:x.fit) (hB:∀r∈x.rs,isB (Go.Va.Bg r)) (hz:Fa x=0):isB (Go.Va.DP x):=by
 have h1:=h.lr;have h2:=h.lc;have h3:=h.lf;have h4:=h.lL;have h5:=h.lR;have h6:=h.lS;have hall:=h.all;have ht:=Hy (VE hz).1;have hrl:∀r∈x.rs,(Go.Va.Bg r).length≤2^60:=by
  intro r hr;have k1:=FH (f:=Ex) hr;have k2:(x.rs.flatMap Ex).length≤(Go.Va.DP x).length:=by unfold Go.Va.DP;simp only[qG];omega
  have k3:(Go.Va.Bg r).length≤(Ex r).length:=by unfold Ex Go.Va.AY;rw[qG];omega
  omega
 have hpl:(Go.Va.Cp x.L x.R x.S).length≤2^60:=by
  have k2:(Go.Va.AY (Go.Va.Cp x.L x.R x.S)).length≤(Go.Va.DP x).length:=by unfold Go.Va.DP;simp only[qG];omega
  have k3:(Go.Va.Cp x.L x.R x.S).length≤(Go.Va.AY (Go.Va.Cp x.L x.R x.S)).length:=by unfold Go.Va.AY;rw[qG];omega
  omega
 unfold Go.Va.DP;refine isB.app (isB.flat λn hn=>isB.encI ?_) (isB.app (isB.encRaw (isB.encTh x.t h.t (by omega)) (by omega)) (isB.app (isB.encI (by unfold i64;omega)) (isB.app (isB.flat λr hr=>isB.encRaw (hB r hr) (hrl r hr)) (isB.app (isB.encI (by unfold i64;omega)) (isB.app (isB.flat λc hc=>(isB.encI (h.cl c hc).1).app (isB.encI (h.cl c hc).2)) (isB.app (isB.encInts h.fs (by omega)) (isB.encRaw (isB.encPf h.L h.R h.S (by omega) (by omega) (by omega)) hpl)))))));simp only[qL,qn,or_false]at hn;rcases hn with rfl|rfl|rfl|rfl
 ·exact h.k
 ·exact h.f
 ·exact h.p
 ·exact h.d
def bV:AC:= .seq (.seq (.reg (oG 43 18) [1,2,4,6,7,8,64,65]) (.block 2 (.loop (lG 43 1)))) (.seq (.reg (oG 43 22) [1,2,4,6,7,8]) (.seq (.reg (oG 43 23) [1,2,4,6,7,8,10,13]) (.seq (.reg (oG 43 24) [1,2,4,6,7,13]) (.seq (.reg (oG 43 25) [1,2,4,6,7]) (.seq (.seq (.reg (oG 43 26) [1,2,6,97]) (.cond (.t 97 false) (.seq (.reg (oG 43 27) [2,3]) .ret) .skip)) (.seq (.seq (.reg (oG 43 28) [1,2,6,14,15]) (.seq (.reg (oG 43 29) [2,6,112]) (.cond (.t 112 false) (.seq (.reg (oG 43 30) [2,3]) .ret) .skip))) (.seq (.reg (oG 43 31) [2,3]) .ret)))))))
def Xg:AC:= .seq (.seq (.reg (oG 43 16) [1,2,4,5,6,7,8,61]) (.cond (.t 61 false) (.seq (.reg (oG 43 17) [2,3]) .ret) .skip)) bV
theorem Xh:iG= .seq (.reg (oG 43 4) [1,2,4,5,6,7]) (.seq (.reg (oG 43 5) [1,2,4,5,6,7,8]) (.seq (.reg (oG 43 6) [1,2,4,5,6,7,8,9,10]) (.seq (.reg (oG 43 7) [1,2,4,5,6,7,8,9]) (.seq (.reg (oG 43 8) [1,2,4,5,6,7,8]) (.seq (.seq (.reg (oG 43 9) [1,2,4,5,6,7,8,41,42]) (.block 0 (.loop (lG 43 0)))) Xg))))):=rfl
def I2:Row:= .cells [.v (.int .i64 0),.v (.int .i64 0),.v (.int .i64 0),.v (.int .i64 0),.own 3 1 [],.own 171 3 [],.own 58 3 [],.own 74 8 [],.own 76 2 [],.own 3 1 [],.own 47 1 [],.own 47 1 [],.own 5 1 []]
def OS:Ext:=⟨0,0,0,0,PK,[],[],[],[],[],[]⟩
def MY:Option Ext→List V
 |some x=>[x.V,.int .i64 0]
 |none=>[OS.V,.int .i64 2]
variable {Q:AExit→St→Prop}
theorem gQ (C0 X2 X3 X4:Row) (J:List Row) (se:CH) (h2:AF se 2= .ref 1 0) (h7:AF se 7= .ref 5 0) (hQ:∀e J,AF e 2= .ref 1 0→AF e 3= .v (.int .i64 2)→Q .ret ⟨e,C0::I2::J⟩):
  awp Tryz.prog An Xg Q ⟨se,C0::I2::X2::X3::X4:: .cells [.v (.bool true)]::J⟩:=by
 simp only[Xg,AE,AG,AL,AA 43 16];simp[h7];simp only[AA 43 17];simp[h2,I2,AS,AD];exact hQ [(2,.ref 1 0),(3,.v (.int .i64 2))] _ rfl rfl
theorem Ya (L:Nat) (s:RS):∃N:Nat,CI L s=N∧N≤L:=⟨(CI L s).toNat,by have:=DT L s;omega,by have:=DT L s;omega⟩
def iX (b:List Int) (k f p d:Int) (th:Th) (rs:List Rgt) (s:RS):Option Ext:=
 let cl:=BX 2 Dr (CI b.length s).toNat (Ad s).2
 let fs:=Am cl.2
 let q:=Bl fs.2
 (Tk q.1).bind λpf=>
  if Fk q.2≠0 then none else
   let x:Ext:=⟨k,f,p,d,th,rs,cl.1,fs.1,pf.1,pf.2.1,pf.2.2⟩
   if Fa x=0∧DP x=b then some x else none
theorem oC (b:List Int) (hB:∀x∈b,0≤x∧x <256) (hl:b.length≤2^30) (k f p d:Int) (th:Th) (rs:List Rgt) (T:Row) (J:List Row) (s:RS) (hBs:s.B) (hsl:s.1.length≤b.length) (se:CH) (h1:AF se 1= .ref 0 0) (h2:AF se 2= .ref 1 0) (h4:AF se 4= .ref 3 0) (h5:AF se 5= .func 109 [.ref 3 0,.ref 0 0]) (h6:AF se 6= .ref 4 0) (h7:AF se 7= .ref 5 0) (h8:AF se 8= .func 110 [.ref 5 0])
  (hfit:∀cl fs pf,BX 2 Dr (CI b.length s).toNat (Ad s).2=cl→Am cl.2=fs→Tk (Bl fs.2).1=some pf→(Ext.mk k f p d th rs cl.1 fs.1 pf.1 pf.2.1 pf.2.2).fit∧∀r∈rs,isB (Bg r))
  (hbad:iX b k f p d th rs s=none→∀e J,AF e 2= .ref 1 0→AF e 3= .v (.int .i64 2)→Q .ret ⟨e,.cells [.v (AH .u8 b)]::I2::J⟩)
  (hgo:∀x,iX b k f p d th rs s=some x→∀e J,AF e 2= .ref 1 0→AF e 3= .v (.int .i64 0)→Q .ret ⟨e,.cells [.v (AH .u8 b)]::x.row::J⟩):
  awp Tryz.prog An bV Q ⟨se,.cells [.v (AH .u8 b)]::I2::s.row::RL::WJ (.v (.int .i64 k)) (.v (.int .i64 f)) (.v (.int .i64 p)) (.v (.int .i64 d)) (.v (AH .i64 th.cs)) (.v (.list (th.vs.map Val.V))) (.v (.list (th.ps.map Th.V))) rs:: .cells [.v (.bool false)]::T::J⟩:=by
 obtain⟨N,hN,hNL⟩:=Ya b.length s;obtain⟨o,ho⟩:∃o,iX b k f p d th rs s=o:=⟨_,rfl⟩;rw[ho]at hbad hgo;unfold iX at ho;simp only at ho;rw[hN,qt]at hfit ho;obtain⟨C0,hC0⟩:∃C,C=Row.cells [.v (AH .u8 b)]:=⟨_,rfl⟩;rw[←hC0]at hbad hgo ⊢;have hR:RL= .cells [.ref 2 0]:=rfl;have q1:=YY (C0::I2::s.row::RL::WJ (.v (.int .i64 k)) (.v (.int .i64 f)) (.v (.int .i64 p)) (.v (.int .i64 d)) (.v (AH .i64 th.cs)) (.v (.list (th.vs.map Val.V))) (.v (.list (th.ps.map Th.V))) rs:: .cells [.v (.bool false)]::T::J) 3 0 2 (b.map (.int .u8)) s hBs rfl (by rw[hC0];rfl) rfl (by decide);rw[qr,hN]at q1;have b1:=hBs.suf (Af s);have l1:=(Af s).length_le;have hD:=oD C0 I2 (.v (.int .i64 k)) (.v (.int .i64 f)) (.v (.int .i64 p)) (.v (.int .i64 d)) (.v (AH .i64 th.cs)) (.v (.list (th.vs.map Val.V))) (.v (.list (th.ps.map Th.V))) (.own 74 8 (rs.map Rgt.V)) (.own 3 1 []) (.own 47 1 []) (.own 47 1 []) (.own 5 1 []) (.cells [.v (.bool false)]::T::J) (Ad s).2 b1 N (by omega);simp only[List.set_cons_succ,List.set_cons_zero]at q1;obtain⟨s1,hs1⟩:∃s1,(Ad s).2=s1:=⟨_,rfl⟩;rw[hs1]at q1 b1 l1 hD hfit ho;have b2:=b1.suf (Bk 2 Dr N s1);have l2:=(Bk 2 Dr N s1).length_le;obtain⟨cl,hcl⟩:∃cl,BX 2 Dr N s1=cl:=⟨_,rfl⟩;rw[hcl]at hD b2 l2 ho
 replace hfit:=λfs pf=>hfit cl fs pf hcl
 have q3:=λX4 J=>M1 cl.2 b2 (by omega) (C0::I2::cl.2.row::RL::X4::J) 2 rfl;have b3:=b2.suf (BN cl.2);have l3:=(BN cl.2).length_le;obtain⟨fs,hfs⟩:∃fs,Am cl.2=fs:=⟨_,rfl⟩;rw[hfs]at q3 b3 l3 ho
 replace hfit:=λpf=>hfit fs pf hfs
 have q4:=λX4 J=>M2 fs.2 b3 (by omega) (C0::I2::fs.2.row::RL::X4::J) 2 rfl;have l4:=DZ fs.2;have q5:=(eJ (Bl fs.2).1 (FU b3) (by omega)).fsp;generalize (Bl fs.2).1=raw at*;generalize (Bl fs.2).2=s4 at*;simp only[List.set_cons_succ,List.set_cons_zero]at q3 q4;have q6:=λX4 J f=>Zn (C0::I2::s4.row::RL::X4:: .cells [.v (.bool false)]::J) 5 f false rfl;simp only[List.set_cons_succ,List.set_cons_zero]at q6;have q7:=λX4 X5 J=>La s4 (C0::I2::s4.row::RL::X4::X5::J) 2 rfl;simp only[Zw,bV,AA 43 18];simp[h1,h2,h4,h5,h6,h7,h8];refine⟨_,_,q1,?_⟩;simp[WJ];simp at hD;refine AZ _ ?_ hD;rintro e ⟨se,sh⟩ ⟨rfl,f1,f2,f4,f6,f7,f8,hh⟩;simp only at f1 f2 f4 f6 f7 f8 hh;subst hh;simp;simp only[AA 43 22];simp[f4,f6];rw[←hR];refine⟨_,_,(q3 _ _),?_⟩;simp[f1,f2,f4,f6,f7,f8];simp only[AA 43 23];simp[hR];rw[←hR];refine⟨_,_,(q4 _ _),?_⟩;simp;cases hpf:Tk raw with
 |none=>
  rw[hpf]at q5 ho;simp only[Option.bind_none]at ho
  replace hbad:=hbad ho.symm
  simp[PD]at q5;refine⟨_,_,q5 _,?_⟩;simp[AS,D.toRow];simp only[AA 43 24];simp;refine⟨_,_,(q6 _ _ _),?_⟩;simp only[AA 43 25];simp;simp only[AA 43 26];simp;simp only[AA 43 27];simp[I2,AS,AD];exact hbad [(2,.ref 1 0),(3,.v (.int .i64 2))] _ rfl rfl
 |some pf=>
  rw[hpf]at q5 ho;simp only[qp]at ho;simp[PD,AH]at q5;refine⟨_,_,q5 _,?_⟩;simp[AS,D.toRow];simp only[AA 43 24];simp;refine⟨_,_,(q6 _ _ _),?_⟩;simp only[AA 43 25];simp;simp only[AA 43 26];simp[hR];rw[←hR];refine⟨_,_,(q7 _ _ _),?_⟩;by_cases he:Fk s4=0
  ·rw[if_neg (by simpa using he)]at ho;obtain⟨hf,hBE⟩:=hfit pf hpf;have q41:=(oU _ hf hBE).fsp;obtain⟨x,hx⟩:∃x:Ext,x=⟨k,f,p,d,th,rs,cl.1,fs.1,pf.1,pf.2.1,pf.2.2⟩:=⟨_,rfl⟩;have hV:(Ext.mk k f p d th rs cl.1 fs.1 pf.1 pf.2.1 pf.2.2).V= .agg [.int .i64 k,.int .i64 f,.int .i64 p,.int .i64 d,AH .i64 th.cs,.list (th.vs.map Val.V),.list (th.ps.map Th.V),.list (rs.map Rgt.V),.list (cl.1.map Bh),.list (fs.1.map (.int .i64)),.list (pf.1.map (.int .u64)),.list (pf.2.1.map (.int .u64)),.list (pf.2.2.map (.int .u8))]:=rfl;have hrow:(Ext.mk k f p d th rs cl.1 fs.1 pf.1 pf.2.1 pf.2.2).row= .cells [.v (.int .i64 k),.v (.int .i64 f),.v (.int .i64 p),.v (.int .i64 d),.v (AH .i64 th.cs),.v (.list (th.vs.map Val.V)),.v (.list (th.ps.map Th.V)),.v (.list (rs.map Rgt.V)),.v (.list (cl.1.map Bh)),.v (.list (fs.1.map (.int .i64))),.v (.list (pf.1.map (.int .u64))),.v (.list (pf.2.1.map (.int .u64))),.v (.list (pf.2.2.map (.int .u8)))]:=rfl;rw[hV]at q41;rw[←hx]at ho q41 hf hrow;have hEB:Fa x=0→∀n∈DP x,0≤n∧n <256:=λh=>isB.encE hf (by rw[hx];exact hBE) h;generalize DP x=E at*;generalize Fa x=e at*;simp[he,AB];simp only[AA 43 28];simp[D.v?];refine⟨_,_,q41 _,?_⟩;simp;simp only[AA 43 29];by_cases h0:e=0
   ·subst h0;have s1:=Cu E (hEB rfl);have s2:=Cu b hB;have s3:=L9 (hEB rfl) hB;simp[hC0,AH,s1,s2,s3];by_cases hb:E=b
    ·rw[if_pos ⟨rfl,hb⟩]at ho
     replace hgo:=hgo x ho.symm
     rw[hrow]at hgo;simp[hb];simp only[AA 43 31];simp[I2,AS,D.toRow,AD];have:=hgo [(2,.ref 1 0),(3,.v (.int .i64 0))];simp[hC0,AH]at this;exact this _
    ·rw[if_neg (λh=>hb h.2)]at ho;simp[hb];simp only[AA 43 30];simp[I2,AS,AD];have:=hbad ho.symm [(2,.ref 1 0),(3,.v (.int .i64 2))];simp[hC0,AH,I2]at this;exact this _
   ·rw[if_neg (λh=>h0 h.1)]at ho;simp[h0];simp only[AA 43 30];simp[I2,AS,AD];exact hbad ho.symm [(2,.ref 1 0),(3,.v (.int .i64 2))] _ rfl rfl
  ·rw[if_pos (by simpa using he)]at ho;simp[he];simp only[AA 43 27];simp[I2,AS,AD];exact hbad ho.symm [(2,.ref 1 0),(3,.v (.int .i64 2))] _ rfl rfl
theorem dG (b:List Int) (hB:∀x∈b,0≤x∧x <256) (hl:b.length≤2^30):PX 43 [AH .u8 b] (MY (dE b)):=by
 refine BU 43 ?_;have b0:RS.B (b,0):=hB;obtain⟨G,hG⟩:∃G,MY (dE b)=G:=⟨_,rfl⟩;rw[hG];unfold dE at hG;simp only at hG;have hfit:=λth h1 rs h2 pf h3=>VX hB hl (th:=th) h1 (rs:=rs) h2 (pf:=pf) h3;have b1:=Ct b0 4;have l1:=(Gc (b,0) 4).length_le;simp only at l1;obtain⟨C0,hC0⟩:∃C,C=Row.cells [.v (AH .u8 b)]:=⟨_,rfl⟩;have hrow:([C0,I2,Fq b,.cells [.ref 2 0]]:List Row)=A0 C0 I2 (b,0) (λj=>decide (11≤j)):=rfl;have hrow2:A0 C0 I2 (b,0) (λ_=>true)=[C0,I2,(Bv (b,0) 4).row,.cells [.ref 2 0],.cells [.v (.int .i64 (Cb (b,0) 0)),.v (.int .i64 (Cb (b,0) 1)),.v (.int .i64 (Cb (b,0) 2)),.v (.int .i64 (Cb (b,0) 3)),.own 3 1 [],.own 171 3 [],.own 58 3 [],.own 74 8 [],.own 76 2 [],.own 3 1 [],.own 47 1 [],.own 47 1 [],.own 5 1 []]]:=rfl;have q44:=Zg b (by omega) [C0,I2];simp only[bU,AE,AG,AA 43 0,AA 43 1,AA 43 2,AV];simp[AH];have hC1:Row.cells [.v (.list (b.map (.int .u8)))]=C0:=hC0.symm;simp only[AH]at q44;have hZ:Row.cells [.v (.int .i64 0),.v (.int .i64 0),.v (.int .i64 0),.v (.int .i64 0),.own 3 1 [],.own 171 3 [],.own 58 3 [],.own 74 8 [],.own 76 2 [],.own 3 1 [],.own 47 1 [],.own 47 1 [],.own 5 1 []]=I2:=rfl;rw[hZ,hC1];refine⟨_,_,q44,?_⟩;simp[AS];rw[CO];refine CT _ (λs hs=>⟨s,.inl rfl,hs⟩) ?_;rw[hrow];refine ma C0 I2 (b,0) b0 (λe he h6=>?_) _ (by
  intro k' hk';simp only[MD,qL,qn,or_false]at hk';rcases hk' with rfl|rfl|rfl|rfl<;>rfl)
 simp only[MD,tO,qn,false_implies,implies_true,and_true,SO]at he;obtain⟨f1,f2,f4,f5⟩:=he;simp only[Bm,f1,f2,f4,f5,h6];rw[hrow2,Xh];generalize Cb (b,0) 0=v0 at*;generalize Cb (b,0) 1=v1 at*;generalize Cb (b,0) 2=v2 at*;generalize Cb (b,0) 3=v3 at*;generalize Bv (b,0) 4=s at*;have q1:=λX4 J=>M2 s b1 (by omega) (C0::I2::s.row:: .cells [.ref 2 0]::X4::J) 2 rfl;have b2:=b1.suf (CL s);have l2:=(CL s).length_le;have l3:=DZ s;have q2:=(eM (Bl s).1 (FU b1) (by omega)).fsp;obtain⟨s1,hs1⟩:∃s1,(Bl s).2=s1:=⟨_,rfl⟩;rw[hs1]at q1 b2 l2 hG hfit;generalize (Bl s).1=raw at*;have q3:=λX4 T f=>Zn [C0,I2,s1.row,.cells [.ref 2 0],X4,.cells [.v (.bool false)],T] 5 f false rfl;have q4:=λX4 X5 T=>YY [C0,I2,s1.row,.cells [.ref 2 0],X4,X5,T] 3 0 2 (b.map (.int .u8)) s1 b2 rfl (by rw[hC0];rfl) rfl (by decide);obtain⟨N,hN,hNL⟩:=Ya b.length s1;rw[hN,qt]at hG hfit;rw[qr,hN]at q4;have b3:=b2.suf (Af s1);have l4:=(Af s1).length_le;simp only[List.set_cons_succ,List.set_cons_zero]at q1 q3 q4;have hR:RL= .cells [.ref 2 0]:=rfl;have hloop:=λT c4 c5 c6 β=>me C0 I2 T (.v (.int .i64 v0)) (.v (.int .i64 v1)) (.v (.int .i64 v2)) (.v (.int .i64 v3)) c4 c5 c6 N (by omega) N (Ad s1).2 β [] [] (by simp) b3 (by omega);have hsuf:=λy=>Q3 N (Ad s1).2 y b3 (by omega);generalize (Ad s1).2=s2 at*;simp only[Lw,WJ,RL,rW,ra,Int.natCast_zero,sX]at hloop;simp only[AE,AG,AU,AA 43 4];simp;simp only[AA 43 5];simp;simp only[AA 43 6];simp;refine⟨_,_,(q1 _ _),?_⟩;simp;have bad:∀e J,AF e 2= .ref 1 0→AF e 3= .v (.int .i64 2)→G=MY none→(match AExit.ret with| .exit _=>False|_=>True)∧Bw ⟨e,C0::I2::J⟩ (gR 43)=some G:=by
  rintro e J g2 g3 rfl;refine⟨trivial,?_⟩;simp[g2,g3,I2,AX 43,Bw,D.vs?,D.v?,MY,OS,PK,Ext.V,Ext.cs,AH,Th.cs,Th.vs,Th.ps]
 cases hth:WI raw with
 |none=>
  rw[hth]at q2 hG;simp[PC,PK,Th.V_eq,AH]at q2;simp only[Option.bind_none]at hG;refine⟨_,_,q2 _,?_⟩;simp[AS,D.toRow];simp only[AA 43 7];simp;refine⟨_,_,(q3 _ _ _),?_⟩;simp only[AA 43 8];simp[AS,D.toRow];simp only[AA 43 9];simp;refine⟨_,_,(q4 _ _ _),?_⟩;refine AZ _ ?_ (hloop _ _ _ _ true);rintro e ⟨se,sh⟩ ⟨rfl,g2,g7,-,g⟩;obtain⟨X2,X3,X4,J,hh⟩:=g (.inl rfl);simp only at g2 g7 hh;subst hh;simp;exact gQ C0 X2 X3 X4 J se g2 g7 λe J h2 h3=>bad e J h2 h3 hG.symm
 |some th=>
  rw[hth]at q2 hG;obtain⟨tc,tv,tp⟩:=th;simp[PC,Th.V_eq,AH]at q2;simp only[qp]at hG;have hfit:=hfit _ hth;refine⟨_,_,q2 _,?_⟩;simp[AS,D.toRow];simp only[AA 43 7];simp;refine⟨_,_,(q3 _ _ _),?_⟩;simp only[AA 43 8];simp[AS,D.toRow];simp only[AA 43 9];simp;refine⟨_,_,(q4 _ _ _),?_⟩;refine AZ _ ?_ (hloop _ _ _ _ false);rintro e ⟨se,sh⟩ ⟨rfl,g2,g7,gg,g⟩;cases hrs:TM N s2 with
  |none=>
   rw[hrs]at hG;simp only[Option.bind_none]at hG;obtain⟨X2,X3,X4,J,hh⟩:=g (.inr hrs);simp only at g2 g7 hh;subst hh;simp;exact gQ C0 X2 X3 X4 J se g2 g7 λe J h2 h3=>bad e J h2 h3 hG.symm
  |some y=>
   rw[hrs]at hG;simp only[qp]at hG;obtain⟨g1,g4,g5,g6,g8,J,hh⟩:=gg y rfl hrs;simp only at g1 g2 g4 g5 g6 g7 g8 hh;subst hh;have hfit:=hfit y hrs;obtain⟨o1,o2,o3,o4⟩:=hsuf y hrs;simp;simp only[Xg,AE,AG,AL,AA 43 16];simp[g1,g2,g4,g5,g6,g7,g8,AB];rw[hC0];refine oC b hB hl v0 v1 v2 v3 (.mk tc tv tp) y.1 _ J y.2 (b3.suf o2) (by have:=o2.length_le;omega) _ rfl rfl rfl rfl rfl rfl rfl (λcl fs pf e1 e2 e3=>by subst e1;subst e2;exact hfit pf e3) ?_ ?_
   ·intro h e J h2 h3;rw[←hC0];exact bad e J h2 h3 (by rw[←hG];exact congrArg MY h)
   ·intro x h e J h2 h3;have hx:G=MY (some x):=by rw[←hG];exact congrArg MY h
    subst hx;refine⟨trivial,?_⟩;obtain⟨k,f,p,d,⟨xc,xv,xp⟩,rs,cl,fs,L,R,S⟩:=x;simp[h2,h3,AX 43,Bw,D.vs?,D.v?,MY,Ext.row,Ext.V,Ext.cs,AH]
end
end Go.Va
