/- Laws that ExtractBytes leans on, part 42. No condition of its own. -/
import Derived.Test.YtopldfpkgbkomaaGreatDoorL41
set_option linter.all false
set_option maxRecDepth 100000
set_option maxHeartbeats 4000000
noncomputable section
namespace Go.Va
open Go.Proofs
def O0 (l:List Int):List (Int×List Int):=OR (A7 l)
def S4 (l:List Int):List Rgt:=Nc (A7 l)
def G8 (l:List Int):List Row:=HR (G6 (A7 l)) (.v (.list MU)) (A7 l)
def RI (l:List Int) (t:Th):Int:=cD MU.length t (S4 l)
def QQ (l:List Int) (t:Th):List (Int×Int):=iL MU.length I6 t (S4 l)
def bO (l:List Int) (t:Th) (d:Int) (c:Int×Int):Bool:=bq I6 t (Ke (S4 l) c.1) c.2 d
def Fx (l:List Int) (kind n:Int) (t:Th):Int:=if kind=0 then Oj n else if kind=1 then RI l t else if kind=2 then O7 n else if RI l t≠0 then RI l t else VP n
def Ew (l:List Int) (kind n:Int) (t:Th):Ext:=QP (Fx l kind n t) (
 if kind=0 then ⟨0,n,0,0,Ql,In n n (S4 l),[],[],QN (O0 l) n n,QM (O0 l) n n,O4 (O0 l) n n⟩
 else if kind=1 then ⟨1,0,0,0,t,S4 l,QQ l t,[],[],[],[]⟩
 else if kind=2 then ⟨2,0,n,0,Ql,S4 l,[],E8 n (S4 l),[],[],[]⟩
 else ⟨3,0,0,n,t,S4 l,(QQ l t).filter (bO l t n),[],[],[],[]⟩)
section
variable (l:List Int)
theorem Ze (ps:List (Int×List Int)):QN ps 0 4095=[]∧QM ps 0 4095=[]∧O4 ps 0 4095=[]:=by
 have e:FE 0 4095 12 0=[]:=Ud 0;simp[QN,QM,O4,e,HA,G7,EV]
theorem H9 {r:Rgt} (h:r∈S4 l):r∈A7 l:=WQ l h
theorem WD:∀r∈S4 l,0≤r.file∧r.file≤4095:=λ_ hr=>Kb (FT (H9 l hr)).choose_spec.2
theorem KP:In 0 4095 (S4 l)=S4 l:=XI (WD l)
theorem ML:(S4 l).length≤4:=WR l
theorem Xz:∀r∈S4 l,r.fine MU.length:=λr hr=>(Ii (H9 l hr)).fine (by have:=(DE (H9 l hr)).lb;omega)
theorem Wh:(O0 l).length≤4:=by
 have:=Ni (A7 l) (A7 l).length (qM _);rw[qm]at this;have h2:=Ih l;unfold O0;omega
theorem Nh:∀p∈O0 l,Sm p:=by
 intro p hp;have:=(K3 (A7 l) (A7 l).length (qM _) p);rw[qm]at this;obtain⟨r,hr,rfl⟩:=qX.1 (this.1 hp);exact⟨aW (DE hr) (by decide),SJ (DE hr) (by decide)⟩
theorem cv:∀a b:Int,0≤a→a <MU.length→0≤b→b <MU.length→PX 311 [.list MU,.int .i64 a,.int .i64 b] [.bool (I6 a b)]:=jk
variable {t:Th} (ht:t.ok) (hs:t.size≤2^40)
theorem Ve:(QQ l t).length≤2^20:=by
 have h1:=Ko I6 t 3 (S4 l) λr hr=>(Ii (H9 l hr)).n;have h2:=ML l;unfold QQ iL;split
 ·omega
 ·simp
theorem Vd {c:Int×Int} (hc:c∈QQ l t):(F5 t=0∧t.kinds 6=true)∧∃r∈S4 l,r.file=c.1∧0≤c.2∧c.2 <r.claims.length:=by
 unfold QQ iL at hc;split at hc
 ·rename_i hE;refine⟨?_,QI hc⟩;unfold cD at hE;by_cases h1:F5 t=0
  ·refine⟨h1,?_⟩;rw[if_neg (by simp[h1])]at hE;cases hk:t.kinds 6 with
   |true=>rfl
   |false=>
    have hk':t.kinds MU.length=false:=hk;rw[hk']at hE;simp only[Bool.false_or]at hE;split at hE
    ·rename_i hall;exfalso;unfold CF at hc;obtain⟨r,hr,hcr⟩:=rM.1 hc;have:=List.isEmpty_iff.1 (qV.1 hall r hr);unfold DB at hcr;rw[this]at hcr;cases hcr
    ·cases hE
  ·rw[if_pos h1]at hE;exact absurd hE h1
 ·cases hc
include ht hs
theorem Wf:PX 73 [.list MU,.list ((S4 l).map Rgt.V),t.V] [.list ((QQ l t).map Bh),.int .i64 (RI l t)]:=
 pG (by rw[Ro];decide) cv t ht hs (S4 l) (by have:=ML l;omega) (Xz l)
end
section
variable (l:List Int)
variable (n:Int) (Z:List Row) (hZ:Low (G8 l++Z))
include hZ
variable {t:Th} (ht:t.ok)
include ht
end
theorem XD:∀f:F,∀g∈f.nodes,g.kids.length≤f.size:=by
 refine F.ind λop n ins kids ih g hg=>?_;rw[F.nodes_eq]at hg;rw[F.size_eq];rcases qL.1 hg with rfl|hg
 ·have:=F.kids_len kids;simp only[F.kids];omega
 ·obtain⟨k,hk,hg⟩:=rM.1 hg;have h1:=ih k hk g hg;have h2:=F.kid_size hk;omega
section
variable (l:List Int) (n:Int) {t:Th} (ht:t.ok)
theorem Ie {α β:Type} (f:α→Option β) (m:Nat) {l:List α} (h:l.length≤m):(l.filterMap f).length≤m:=qo (sR f l) h
include ht
variable (Z:List Row) (hZ:Low (G8 l++Z))
theorem cw (hs:t.size≤2^40) {c:Int×Int} (hc:c∈QQ l t):∃j r,(S4 l)[j]?=some r∧r.file=c.1∧(∀k q,k <j→(S4 l)[k]?=some q→q.file≠c.1)∧j <2^40∧PX 166 [.list MU,r.V,.int .i64 c.2,t.V,.int .i64 n] [.bool (bO l t n c),.int .i64 0]:=by
 obtain⟨f,i⟩:=c;obtain⟨⟨h1,h2⟩,r,hr,hrf,h0,hi⟩:=Vd l hc;simp only at hrf h0 hi ⊢;subst hrf;obtain⟨j,hj⟩:=sj.1 hr;have hm:=H9 l hr;have hpw:=WS (GD l);have hfr:Ke (S4 l) r.file=r:=FZ hpw hr;have hjl:=(qK.1 hj).1;have hl4:=ML l;refine⟨j,r,hj,rfl,λk q hk hq=>?_,by omega,?_⟩
 ·obtain⟨a1,a2⟩:=qK.1 hq;obtain⟨b1,b2⟩:=qK.1 hj;have:=List.pairwise_iff_getElem.1 hpw k j a1 b1 hk;rw[←a2,←b2];exact this
 ·obtain⟨i',rfl⟩:∃i':Nat,i=i':=⟨i.toNat,by omega⟩;have hcs:=Ii hm;have hal:=hcs.alts i' (by omega);have ht3:=DE hm;unfold bO;rw[hfr];exact lZ (by rw[Ro];decide) cv r hcs.altOK (λc hc=>(hcs.tiny c hc).ok) hcs.z (by have:=ht3.ld;omega) i' (by omega) t ht hs (λf hf=>⟨(hal.2 f hf).1,nk hal hf h1 h2⟩) hal.1 n
include hZ
end
structure Th.fit (t:Th):Prop where
 ok:t.ok
 small:t.small
 size:t.size≤2^40
section
variable (l:List Int) (N:List Int) (hN:N.length=4) (T:List Th) (hT:T.length=2) (hf:∀t∈T,t.fit)
end
theorem RQ (l:List Int):∀d at_,(HO l d at_).1.wee
 |0,at_=>by
  obtain⟨c1,c2,c3⟩:=Jh (Ai l at_ 1048576);obtain⟨v1,v2,v3,v4⟩:=I3 l (at_+1);rw[HO];exact .mk (λc hc=>by have:=c3 c hc;unfold i64;omega) (by omega) (by omega) (by simp) v4 (by simp)
 |d+1,at_=>by
  obtain⟨c1,c2,c3⟩:=Jh (Ai l at_ 1048576);obtain⟨v1,v2,v3,v4⟩:=I3 l (at_+1);have hp:=Gj (HO l d) l.length Th.wee (RQ l d) (Ai l ((at_+4:Nat):Int) 4).toNat (at_+5);have hn:=Gi (HO l d) l.length (Ai l ((at_+4:Nat):Int) 4).toNat (at_+5);have h3:=PP l ((at_+4:Nat):Int);rw[HO];exact .mk (λc hc=>by have:=c3 c hc;unfold i64;omega) (by omega) (by omega) (by omega) v4 hp
theorem ID (l2:List Int):(A6 l2).wee:=RQ l2 2 0
theorem QU (l2:List Int):(A6 l2).size≤2^39:=by
 have h:=I5 l2 0;unfold F5 at h;split at h
 ·rename_i hl;rw[Nv]at hl;have:=(of_decide_eq_true hl).2;unfold A6;omega
 ·cases h
theorem SX (l2:List Int):(A6 l2).fit:=⟨(ID l2).wid.fit.1,(ID l2).wid.fit.2,by have:=QU l2;omega⟩
theorem Th.agg3 (t:Th):∃x0 x1 x2,t.V= .agg [x0,x1,x2]:=by
 obtain⟨c,v,p⟩:=t;exact⟨_,_,_,Th.V_eq c v p⟩
section
variable {m:Nat} {h:List Row}
section
variable (l:List Int)
def G2:List Row:=HR [] (.v (.list MU)) (A7 l)
theorem SV:G2 l=[IX (O0 l),.cells [.v (.list MU),.own 32 8 ((S4 l).map Rgt.V),.ref 0 0]]:=by
 unfold G2 HR O0 S4;rw[←T8 (GD l)];rfl
theorem cF:Low (G2 l):=WH (by intro row hrow;cases hrow) _ _
theorem oJ (Z:List Row):(G2 l++Z)[0]?=some (IX (O0 l)):=by rw[SV];rfl
theorem oI (Z:List Row):(G2 l++Z)[1]?=some (.cells [.v (.list MU),.own 32 8 ((S4 l).map Rgt.V),.ref 0 0]):=by rw[SV];rfl
theorem jB:FX 15 [.v He,.v (.list ((A7 l).map Rgt.V))] [] [.ref 1 0,.v (.int .i64 0)] (G2 l):=by
 have q:=pX [] (by intro row hrow;cases hrow) (m:=3) (by decide) MU (A7 l) (λr hr=>DE hr) (by have:=Ih l;omega);rw[Ok,if_pos rfl,if_pos rfl]at q;exact q
theorem jA (n:Int) {t:Th} (ht:t.ok) (hZ:Low h) {g:Nat} (hg:h[g]?=some (.cells [.v (.list MU),.own 32 8 ((S4 l).map Rgt.V),.ref m 0])) (hm:h[m]?=some (IX (O0 l))) (hs:t.size≤2^40) {kind:Int} (hk:kind=0∨kind=1∨kind=2∨kind=3):
  FX 28 [.ref g 0,.v (.int .i64 kind),.v (.int .i64 n),.v t.V] h [.v (Ew l kind n t).V,.v (.int .i64 (Fx l kind n t))] h:=by
 have hl4:=ML l;have hpn:=Wh l;obtain⟨e1,e2,e3⟩:=Ze (O0 l);rcases hk with rfl|rfl|rfl|rfl
 ·exact ju hZ hg (by omega) hm (by omega) (Nh l) n t
 ·have q:=dS hZ hg (by omega) hm (by omega) (Nh l) n t 1 0 (.inl ⟨rfl,rfl⟩) (QQ l t) (RI l t) (Wf l ht hs) (QQ l t) (RI l t) (by split<;>simp_all) (λhE=>by
   have:=jK MU (Ext.mk 1 0 0 0 t (In 0 4095 (S4 l)) [] [] (QN (O0 l) 0 4095) (QM (O0 l) 0 4095) (O4 (O0 l) 0 4095)) (QQ l t) (RI l t) (.inl rfl) (by simp only[KP];exact Wf l ht hs);rw[hE]at this;exact this)
  rw[KP,e1,e2,e3]at q;exact q
 ·have q:=jv hZ hg (by omega) hm (by omega) (Nh l) n t (λr hr=>by have:=(DE (H9 l hr)).lo;omega);rw[KP,e1,e2,e3]at q;exact q
 ·have q:=dS hZ hg (by omega) hm (by omega) (Nh l) n t 3 n (.inr ⟨rfl,rfl⟩) (QQ l t) (RI l t) (Wf l ht hs) ((QQ l t).filter (bO l t n)) (Fx l 3 n t) rfl (λhE=>by
   have h0:RI l t=0:=by
    by_cases h:RI l t=0
    ·exact h
    ·have:Fx l 3 n t=RI l t:=by show (if RI l t≠0 then RI l t else VP n)=_;rw[if_pos h]
     rw[this]at hE;exact hE
   refine jJ MU (Ext.mk 3 0 0 n t (In 0 4095 (S4 l)) [] [] (QN (O0 l) 0 4095) (QM (O0 l) 0 4095) (O4 (O0 l) 0 4095)) rfl (QQ l t) (Ve l) ?_ (bO l t n) ?_
   ·simp only[KP];rw[←h0];exact Wf l ht hs
   ·simp only[KP];exact λc hc=>cw l n ht hs hc)
  rw[KP,e1,e2,e3]at q;exact q
theorem Oc (lb:List Int) (xs:List Int):u64 (Od lb xs):=D8 _
theorem R6 (ps:List (Int×List Int)) (n v:Int) (h:FF ps n=some v):u64 v:=by
 unfold FF at h;cases hf:ps.find? (λp=>p.1==n)with
 |none=>simp[hf]at h
 |some p=>simp[hf]at h;subst h;exact Oc _ _
theorem V4 {lf:Int→Option Int} (h:∀n v,lf n=some v→u64 v):∀(k:Nat) (n v:Int),bH lf k n=some v→u64 v
 |0,n,v,hv=>h n v hv
 |k+1,n,v,hv=>by
  unfold bH KY at hv;split at hv
  ·cases hv
  ·simp only[qF]at hv;subst hv;exact Oc _ _
theorem Wl (ps:List (Int×List Int)) (a b:Int):∀n∈QN ps a b,u64 n:=by
 intro n hn;obtain⟨q,_,hq⟩:=List.mem_filterMap.1 hn;split at hq
 ·exact V4 (R6 ps) _ _ _ hq
 ·cases hq
theorem Wj (ps:List (Int×List Int)) (a b:Int):∀n∈QM ps a b,u64 n:=by
 intro n hn;obtain⟨q,_,hq⟩:=List.mem_filterMap.1 hn;split at hq
 ·cases hq
 ·exact V4 (R6 ps) _ _ _ hq
theorem cz (ps:List (Int×List Int)) (a b:Int):∀n∈O4 ps a b,0≤n∧n <256:=by
 intro n hn;obtain⟨q,_,rfl⟩:=qX.1 hn;split<;>omega
theorem iz:i64 0:=⟨by decide,by decide⟩
theorem i1:i64 1:=⟨by decide,by decide⟩
theorem i2:i64 2:=⟨by decide,by decide⟩
theorem i3:i64 3:=⟨by decide,by decide⟩
theorem Qk:Ql.size≤100:=by decide
theorem Nq:Ql.size≤300:=by decide
theorem Np:Ql.wid:= .mk (by simp) (by decide) (by decide) (by decide) (by simp) (by simp)
theorem Uk:Hk.nice 3 1048576:=⟨iz,iz,iz,iz,Np,Nq,by simp[Hk,Ee],by simp[Hk,Ee],by simp[Hk,Ee],by simp[Hk,Ee],by simp[Hk,Ee],by simp[Hk,Ee],by simp[Hk,Ee],by simp[Hk,Ee],by simp[Hk,Ee],by simp[Hk,Ee],by simp[Hk,Ee],by simp[Hk,Ee]⟩
theorem MI {n:Int} (hn:i64 n) {t:Th} (ht:t.wee) (hts:t.size≤100) (kind:Int):(Ew l kind n t).nice 3 1048576∧(Ew l kind n t).t.wee∧(Ew l kind n t).t.size≤100:=by
 have z:=iz;have nw:Ql.wee:= .mk (by simp) (by decide) (by decide) (by decide) (by simp) (by simp);have h4:=ML l;have t4:∀r∈S4 l,r.tiny 3:=λr hr=>DE (H9 l hr);have hcm:∀c∈QQ l t,i64 c.1∧i64 c.2:=by
  intro c hc;obtain⟨_,r,hr,hf,h0,h1⟩:=Vd l hc;have h3:=(t4 r hr).lc;refine⟨hf▸(t4 r hr).file,?_⟩;unfold i64;omega
 have hcl:=Ve l (t:=t);have hB:=GN n n 12 0;have hff:∀pa,(∀c∈E8 pa (S4 l),i64 c)∧(E8 pa (S4 l)).length≤4:=λpa=>by
  unfold E8;refine⟨λc hc=>?_,by rw[qr];exact qo (rT _ _) h4⟩;obtain⟨r,hr,rfl⟩:=qX.1 hc;exact(t4 r (r9.1 hr).1).file
 have hor:∀(E:Int) (x:Ext),(x.nice 3 1048576∧x.t.wee∧x.t.size≤100)→(QP E x).nice 3 1048576∧(QP E x).t.wee∧(QP E x).t.size≤100:=λE x hx=>by
  unfold QP;split
  ·exact hx
  ·exact⟨Uk,nw,Qk⟩
 unfold Ew;refine hor _ _ ?_;split
 ·refine⟨⟨z,hn,z,z,Np,Nq,λr hr=>t4 r (r9.1 hr).1,qo (rT _ _) h4,by simp,by simp,by simp,by simp,Wl _ _ _,Wj _ _ _,cz _ _ _,Ie _ _ (by omega),Ie _ _ (by omega),by simp[O4,EV];omega⟩,nw,Qk⟩
 ·split
  ·exact⟨⟨i1,z,z,z,ht.wid,by simp only;omega,t4,h4,hcm,by simp only;omega,by simp,by simp,by simp,by simp,by simp,by simp,by simp,by simp⟩,ht,hts⟩
  ·split
   ·obtain⟨f1,f2⟩:=hff n;exact⟨⟨i2,z,hn,z,Np,Nq,t4,h4,by simp,by simp,f1,by simp only;omega,by simp,by simp,by simp,by simp,by simp,by simp⟩,nw,Qk⟩
   ·refine⟨⟨i3,z,z,hn,ht.wid,by simp only;omega,t4,h4,λc hc=>hcm c (r9.1 hc).1,?_,by simp,by simp,by simp,by simp,by simp,by simp,by simp,by simp⟩,ht,hts⟩;have:=rT (bO l t n) (QQ l t);simp only;omega
end
end
theorem Th.wid.full {t:Th} (h:t.wid):t.full:=by
 induction h with
 |mk h0 h1 h2 h3 h4 _ ih=>exact .mk h0 (by omega) (by omega) (by omega) h4 ih
theorem TG {t:Th} (h:t.wid):(BD t).length≤90000*t.size:=by
 induction h with
 | @mk cs vs ps h0 h1 h2 h3 h4 _ ih=>
  have g1:=Au cs;have g2:=Aw (cs.length:Int);have g3:=AO (vs.length:Int);have g4:=AO (ps.length:Int);have g5:=EJ (f:=CZ) (m:=30) vs λx _=>Iv x;have g6:∀l:List Th,(∀x∈l,(BD x).length≤90000*x.size)→(C9 l).length≤90000*Th.sizes l:=by
   intro l;induction l with
   |nil=>intro _;simp[C9]
   |cons x l ihl=>
    intro h;have h1:=h x (by simp);have h2:=ihl λy hy=>h y (by simp[hy]);simp only[C9,qG,Th.sizes];omega
  have g7:=g6 ps ih;simp only[BD,Ah,qG,Th.size];omega
theorem VK {r:Rgt} (h:r.tiny 4):(Bg r).length≤65536:=by
 have h1:=h.lc;have h2:=h.ld;have h3:=h.lb;have h4:=h.lo;have h5:=h.ll;have e0:=Fc h.claims;have e1:=AO r.file;have e2:=AO r.state;have e3:=AO r.force;have e4:=Aw (A8 r.claims).length;have e5:=AO r.dates.length;have e6:=Cr D1 r.dates;have e7:=Fb r.bad;have e8:=AO r.owners.length;have e9:=Cr Dz r.owners;have e10:=AO r.lics.length;have e11:=Cr D0 r.lics;simp only[Bg,AY,qG];omega
theorem WY {r:Rgt} (h:r.tiny 4):r.sm where
 h1:=by have:=h.lc;omega
 h2:=λc hc=>⟨by have:=(h.claims c hc).lr;omega,λg hg=>⟨by have:=((h.claims c hc).body.one g hg).2;omega,by have:=XD _ g hg;have:=(h.claims c hc).body.size;omega⟩⟩
 h3:=by have:=h.ld;omega
 h4:=by have:=h.lb;omega
 h5:=by have:=h.lo;omega
 h6:=by have:=h.ll;omega
theorem Ext.nice.enc {x:Ext} (h:x.nice 4 1048577):(DP x).length≤2^29:=by
 have l1:=h.lr;have l2:=h.lc;have l3:=h.lf;have l4:=h.lL;have l5:=h.lR;have l6:=h.lS;have l7:=h.ts;have g0:=TG h.t;have g1:=EJ (f:=H4) (m:=20) x.cl λc _=>by
  have:=AO c.1;have:=AO c.2;simp only[H4,qG];omega
 have g2:=Au x.fs;have g3:=BJ x.L;have g4:=BJ x.R;have g5:([x.kind,x.file,x.party,x.day].flatMap AN).length≤40:=Au _;have g6:=EJ (f:=Ex) (m:=65546) x.rs λr hr=>by
  have k1:=VK (h.rs r hr);have k2:=Aw ((Bg r).length:Int);simp only[Ex,AY,qG];omega
 have v1:=Aw ((BD x.t).length:Int);have v2:=AO (x.rs.length:Int);have v3:=AO (x.cl.length:Int);have v4:=Aw (x.fs.length:Int);have v5:=Aw ((Cp x.L x.R x.S).length:Int);have v6:=Aw (x.S.length:Int);have v7:=AO (x.L.length:Int);have v8:=AO (x.R.length:Int);have ePf:(Cp x.L x.R x.S).length≤2^25:=by
  simp only[Cp,EN,AY,qG];omega
 have eF:(Ah x.fs).length≤2^25:=by simp only[Ah,qG];omega
 have eT:(AY (BD x.t)).length≤27000010:=by simp only[AY,qG];omega
 have eP:(AY (Cp x.L x.R x.S)).length≤2^25+10:=by simp only[AY,qG];omega
 unfold DP;simp only[qG];omega
theorem Ext.nice.fit {x:Ext} (h:x.nice 4 1048577):x.fit:=by
 have l1:=h.lr;have l2:=h.lc;have l3:=h.lf;have l4:=h.lL;have l5:=h.lR;have l6:=h.lS;have l7:=h.enc;exact⟨h.k,h.f,h.p,h.d,h.t.full,λr hr=>(h.rs r hr).ok (by decide),by omega,h.cl,by omega,h.fs,by omega,h.L,h.R,h.S,by omega,by omega,by omega,by omega⟩
theorem Ext.nice.sm {x:Ext} (h:x.nice 4 1048577):x.sm:=by
 have l1:=h.lr;have l2:=h.lc;have l3:=h.lf;have l4:=h.lL;have l5:=h.lR;have l6:=h.lS;exact⟨h.t.fit.1,λr hr=>WY (h.rs r hr),by omega,by omega,by omega,by omega,by omega,by omega⟩
theorem Ext.nice.B {x:Ext} (h:x.nice 4 1048577):∀r∈x.rs,isB (Bg r):=λr hr=>isB.encR r ((h.rs r hr).ok (by decide))
theorem Sl {x:Ext} (h:x.fit):∃rest,Ad (DP x,0)=(x.kind,(rest,0)):=by
 have e:DP x=AN x.kind++([x.file,x.party,x.day].flatMap AN++(AY (BD x.t)++(AN x.rs.length++(x.rs.flatMap Ex++(AN x.cl.length++(x.cl.flatMap H4++(Ah x.fs++AY (Cp x.L x.R x.S)))))))):=by simp[DP]
 exact⟨_,by rw[e];exact BC h.k _⟩
theorem VM {x:Ext}:0 <(DP x).length:=by
 have e:DP x=AN x.kind++([x.file,x.party,x.day].flatMap AN++(AY (BD x.t)++(AN x.rs.length++(x.rs.flatMap Ex++(AN x.cl.length++(x.cl.flatMap H4++(Ah x.fs++AY (Cp x.L x.R x.S)))))))):=by simp[DP]
 have:=D3 9 (Fy x.kind);rw[e,qG];unfold AN CY;omega
theorem RT:F5 Ql=0:=by decide
theorem Td (l:List Int) (kind n:Int) {t:Th} (ht:F5 t=0) (hE:Fx l kind n t=0):Fa (Ew l kind n t)=0:=by
 have hf:∀r∈S4 l,Ag r=true:=λr hr=>(FT (H9 l hr)).choose_spec.2;have key:∀x:Ext,F5 x.t=0→(∀r∈x.rs,Ag r=true)→Fa x=0:=λx h1 h2=>by
  unfold Fa;rw[if_pos h1,if_pos (qV.2 h2)]
 unfold Ew QP;rw[if_pos hE];split
 ·exact key _ RT λr hr=>hf r (r9.1 hr).1
 ·split
  ·exact key _ ht hf
  ·split
   ·exact key _ RT hf
   ·exact key _ ht hf
theorem Xu (l l2:List Int) {n5:Int} (h:1≤n5∧n5≤5):Fx l 0 7 (A6 l2)=0∧Fx l 1 0 (A6 l2)=0∧Fx l 2 n5 (A6 l2)=0∧Fx l 3 36000 (A6 l2)=0:=by
 have ha:RI l (A6 l2)=0:=by
  have h1:F5 (A6 l2)=0:=I5 l2 0;have h2:(A6 l2).kinds 6=true:=(QV l2).kd;unfold RI cD;rw[if_neg (by simp[h1])];have h3:(A6 l2).kinds (MU.length:Int)=true:=h2;rw[h3];rfl
 refine⟨by simp[Fx,Oj],by simp[Fx,ha],?_,by simp[Fx,ha,VP]⟩;simp only[Fx,O7];rw[if_neg (by decide),if_neg (by decide),if_pos trivial,if_neg (by omega)]
theorem Wv:OS.fit:=⟨iz,iz,iz,iz,.mk (by simp) (by decide) (by decide) (by decide) (by simp) (by simp),by simp[OS],by simp[OS],by simp[OS],by simp[OS],by simp[OS],by simp[OS],by simp[OS],by simp[OS],by simp[OS],by simp[OS],by simp[OS],by simp[OS],by decide⟩
theorem av (b:List Int) (hB:isB b) (hl:b.length≤2^30):∃(D:Ext) (e:Int),MY (dE b)=[D.V,.int .i64 e]∧D.fit∧((e=0∧Fa D=0∧DP D=b)∨(e=2∧D=OS)):=by
 cases h:dE b with
 |none=>exact⟨OS,2,rfl,Wv,.inr ⟨rfl,rfl⟩⟩
 |some x=>
  obtain⟨h1,h2,h3,h4⟩:=gO hB hl h;exact⟨x,0,rfl,h1,.inl ⟨rfl,h3,h4⟩⟩
theorem pl (T:List (List Int)) (hT:∀b∈T,isB b∧b.length≤2^30) (hn:T.length≤1000) (H:List Row) (Q:AExit→St→Prop) (hQ:∀e J,Q (.exit 4) ⟨e,J⟩):
  awp Tryz.prog An (.loop (lG 8 2)) Q ⟨[(20,.own 62 1 (T.map (AH .u8))),(38,.v (.int .i64 0))],H⟩:=by
 refine Al T.length (λk s=>∃J,s=⟨[(20,.own 62 1 (T.map (AH .u8))),(38,.v (.int .i64 k))],J⟩) ⟨H,rfl⟩ ?_;rintro k s hk ⟨J,rfl⟩;simp only[Zw,BA 8 2,AA 8 33];by_cases h1:k <T.length
 ·obtain⟨b,hb⟩:∃b,T[k]?=some b:=⟨_,qH h1⟩;obtain⟨hB,hl⟩:=hT b (qJ hb);have hw:=Bo k;have w0:IntKind.i64.wrap 0=0:=by decide
  obtain⟨X0,e,hD,hf,hc⟩:=av b hB hl;have q1:=(dG b hB hl).fsp;have q2:=(oV X0 hf.lr hf.lc (λr hr=>pM oc r (hf.rs r hr))).fsp;have q3:=(jS X0 hf).fsp;rw[hD]at q1;have s2:=Cu b hB;have hbk:(T.map (AH .u8))[k]?=some (AH .u8 b):=by rw[qZ,hb];rfl
  have hTl:(T.map (AH .u8)).length=T.length:=by simp
  generalize T.map (AH .u8)=TV at*;have h1':k <TV.length:=by omega
  rcases hc with ⟨rfl,h2,h3⟩|⟨rfl,rfl⟩
  ·rw[h2,h3,if_pos rfl]at q3;obtain⟨x0,x1,x2,x3,x4,x5,x6,x7,x8,x9,x10,x11,x12,hx⟩:=J6 (X:=X0.cs) rfl;have hV:X0.V= .agg [x0,x1,x2,x3,x4,x5,x6,x7,x8,x9,x10,x11,x12]:=by show V.agg _=_;rw[hx]
   rw[hV]at q1 q2 q3;clear hx hV hD hf h2 h3;simp only[AH]at hbk q1 q3;simp at q1 q2 q3;obtain⟨_,hg⟩:=qK.1 hbk;simp[h1',AB];simp only[AA 8 35];simp[h1',hg];refine⟨_,_,q1 _,?_⟩;simp[AS,D.toRow];simp only[AA 8 36];simp[D.vs?,D.v?];refine⟨_,_,q2 _,?_⟩;simp;refine⟨_,_,q3 _,?_⟩;simp only[AW,AA 8 37];simp[s2,h1',hg];simp only[AA 8 34];simp[hw,h1]
  ·simp only[OS,Ext.V,Ext.cs,PK,Th.cs,Th.vs,Th.ps,AH]at hbk q1 q2 q3;simp at q1 q2 q3;obtain⟨_,hg⟩:=qK.1 hbk;simp[h1',AB];simp only[AA 8 35];simp[h1',hg];refine⟨_,_,q1 _,?_⟩;simp[AS,D.toRow];simp only[AA 8 36];simp[D.vs?,D.v?];refine⟨_,_,q2 _,?_⟩;simp;refine⟨_,_,q3 _,?_⟩;simp only[AW,AA 8 37];simp[w0];simp only[AA 8 34];simp[hw,h1]
 ·obtain rfl:k=T.length:=by omega
  simp[AJ];exact hQ _ _
section
variable (d2 d3 d4 d5 d7 d17 d19 d20 d21 d22:D)
def XU (es:CH):CH:=(2,d2)::(3,d3)::(4,d4)::(5,d5)::(7,d7)::(17,d17)::(19,d19)::(20,d20)::(21,d21)::(22,d22)::es
theorem pm (a y:Ext) (ha:a.nice 4 1048577) (hy:y.nice 4 1048577) (H:List Row) (Q:AExit→St→Prop)
  (hQ:∀e J,Lows J→(AF e 2=d2∧AF e 3=d3∧AF e 4=d4∧AF e 5=d5∧AF e 7=d7∧AF e 17=d17∧AF e 19=d19∧AF e 20=d20∧AF e 21=d21∧AF e 22=d22)→Q (.exit 2) ⟨e,H++J⟩):
  awp Tryz.prog An (.loop (lG 8 1)) Q ⟨XU d2 d3 d4 d5 d7 d17 d19 d20 d21 d22 [(24,.own 95 13 [a.V,y.V]),(25,.v (.int .i64 0))],H⟩:=by
 refine Al 2 (λk s=>∃J,Lows J∧s=⟨XU d2 d3 d4 d5 d7 d17 d19 d20 d21 d22 [(24,.own 95 13 [a.V,y.V]),(25,.v (.int .i64 k))],H++J⟩) ⟨[],Lows.nil,by simp⟩ ?_;rintro k s hk ⟨J,hJ,rfl⟩;simp only[Zw,BA 8 1,AA 8 14,XU];by_cases h1:k <2
 ·obtain⟨x,hx,hLk⟩:∃x:Ext,x.nice 4 1048577∧[a.V,y.V][k]?=some x.V:=by
   have:k=0∨k=1:=by omega
   rcases this with rfl|rfl
   ·exact⟨a,ha,rfl⟩
   ·exact⟨y,hy,rfl⟩
  have hL2:[a.V,y.V].length=2:=rfl;have hw:=Bo k;have hf:=hx.fit;have q1:=(pQ x hf.lr hf.lc hf.rs).fsp;have q2:=(oU x hf hx.B).fsp;have q3:=(jS x hf).fsp;have hEB:Fa x=0→isB (DP x):=λh=>isB.encE hf hx.B h;obtain⟨W,hW⟩:∃W,(if Fa x=0 then DP x else [])=W:=⟨_,rfl⟩;have hWB:isB W:=by
   rw[←hW];split
   ·rename_i h;exact hEB h
   ·intro n hn;cases hn
  have s1:=Cu W hWB;rw[hW]at q2 q3;obtain⟨x0,x1,x2,x3,x4,x5,x6,x7,x8,x9,x10,x11,x12,hxc⟩:=J6 (X:=x.cs) rfl;have hV:x.V= .agg [x0,x1,x2,x3,x4,x5,x6,x7,x8,x9,x10,x11,x12]:=by show V.agg _=_;rw[hxc]
  have hx0:x0= .int .i64 x.kind:=by
   have:x.cs[0]?=some x0:=by rw[hxc];rfl
   have h2:x.cs[0]?=some (.int .i64 x.kind):=rfl;rw[this]at h2;exact re h2
  rw[hV]at q1 q2 q3 hLk;generalize [a.V,y.V]=LV at*;have h1':k <LV.length:=by omega
  obtain⟨_,hg⟩:=qK.1 hLk;have hk2:(k:Int) <2:=by omega
  simp only[AH]at q2 q3;simp at q1 q2 q3;simp[hk2,AB];simp only[AA 8 16];simp[h1',hg];refine⟨_,_,q1 _,?_⟩;simp;refine⟨_,_,q2 _,?_⟩;simp only[AA 8 17];simp[h1',hg];refine⟨_,_,q3 _,?_⟩;simp only[AA 8 18];simp[s1];simp only[AA 8 20];by_cases h0:Fa x=0
  ·rw[if_pos h0]at hW;subst hW;have q4:=(dG (DP x) hWB (qo hx.enc (by decide))).fsp;rw[gP hf h0]at q4;simp only[MY]at q4;rw[hV]at q4;have q5:=λJ=>Zg (DP x) (by have:=hx.enc;omega) J;obtain⟨rest,hrest⟩:=Sl hf;have q6:∀X:Row,FX 45 [.ref (H.length+(J.length+1)) 0] (H++(J++[X,Fq (DP x)])) [.v (.int .i64 x.kind)] (H++(J++[X,Hb rest 0])):=by
    intro X;have h2:=DW (DP x,0) hWB (H++(J++[X,Fq (DP x)])) (H.length+(J.length+1)) (by rw[ql (by omega),ql (by omega)];simp;rfl);rw[hrest,sP _ _ (by omega),sP _ _ (by omega)]at h2;simpa[show H.length+(J.length+1)-H.length-J.length=1 by omega,RS.row]using h2
   subst hx0;have q7:=oV x hf.lr hf.lc (λr hr=>pM oc r (hf.rs r hr));have q8:=pT x hx.sm;rw[hV]at q7 q8;simp only[AH]at q4 q5;simp at q4;simp[h0];simp only[AA 8 21];simp;refine⟨_,_,q4 _,?_⟩;simp[AS,D.toRow];simp only[AA 8 22];simp;refine⟨_,_,(q5 _),?_⟩;simp;rw[CO];refine CT _ (λs hs=>⟨s,.inl rfl,hs⟩) ?_;simp only[AA 8 23];simp[h1',hg];have hlow:Lows (J++[.cells [.v (.int .i64 x.kind),.v x1,.v x2,.v x3,.v x4,.v x5,.v x6,.v x7,.v x8,.v x9,.v x10,.v x11,.v x12],Hb rest 0]):=
    hJ.both (eZ (λn=>by simp[Row.low,D.lts,D.lt]) (λn=>by simp[Hb,Row.low,D.lts,D.lt]))
   constructor
   ·refine⟨_,_,(q6 _),?_⟩;simp[h1',hg,D.vs?,D.v?];refine⟨_,_,⟨rfl,rfl⟩,_,q7,?_⟩;simp;refine⟨_,_,⟨rfl,rfl⟩,_,q8,?_⟩;simp;simp only[AA 8 15];simp[hw,h1];exact hlow
   ·refine⟨_,_,(q6 _),?_⟩;simp[h1',hg,D.vs?,D.v?];refine⟨_,_,⟨rfl,rfl⟩,_,q7,?_⟩;simp;refine⟨_,_,⟨rfl,rfl⟩,_,q8,?_⟩;simp;simp only[AA 8 15];simp[hw,h1];exact hlow
  ·simp[h0,AJ];simp only[AA 8 15];simp[hw,h1];exact hJ
 ·obtain rfl:k=2:=by omega
  simp[AJ];exact hQ _ J hJ ⟨rfl,rfl,rfl,rfl,rfl,rfl,rfl,rfl,rfl,rfl⟩
end
end Go.Va
