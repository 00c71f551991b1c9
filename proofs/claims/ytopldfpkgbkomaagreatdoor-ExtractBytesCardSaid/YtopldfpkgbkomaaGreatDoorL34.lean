/- Laws that ExtractBytes leans on, part 34. No condition of its own. -/
import Derived.Test.YtopldfpkgbkomaaGreatDoorL29
set_option linter.all false
set_option maxRecDepth 100000
set_option maxHeartbeats 4000000
noncomputable section
namespace Go.Va
open Go.Proofs
structure Ext where
 (kind file party day:Int)
 t:Th
 rs:List Rgt
 cl:List (Int×Int)
 fs:List Int
 (L R S:List Int)
def Ext.cs (x:Ext):List V:=[.int .i64 x.kind,.int .i64 x.file,.int .i64 x.party,.int .i64 x.day,AH .i64 x.t.cs,.list (x.t.vs.map Val.V),.list (x.t.ps.map Th.V),.list (x.rs.map Rgt.V),.list (x.cl.map Bh),AH .i64 x.fs,AH .u64 x.L,AH .u64 x.R,AH .u8 x.S]
def Ext.V (x:Ext):V:= .agg x.cs
structure Rgt.sm (r:Rgt):Prop where
 h1:r.claims.length≤2^30
 h2:∀c∈r.claims,c.refs.length≤2^40∧c.body.sm
 h3:r.dates.length≤2^30
 h4:r.bad.length≤2^40
 h5:r.owners.length≤2^30
 h6:r.lics.length≤2^30
structure Ext.sm (x:Ext):Prop where
 t:x.t.ok
 rs:∀r∈x.rs,r.sm
 lr:x.rs.length≤2^30
 cl:x.cl.length≤2^30
 fs:x.fs.length≤2^40
 L:x.L.length≤2^40
 R:x.R.length≤2^40
 S:x.S.length≤2^40
theorem pT (x:Ext) (hx:x.sm):PX 29 [x.V,x.V] [.bool true]:=by
 refine BU 29 ?_;have q1:=(pB x.t hx.t).fsp;have q2:=(pA x.cl (qo hx.cl (by decide))).fsp;have q3:=(o9 x.L x.R x.S hx.L hx.R hx.S).fsp;have q4:=jG x.fs hx.fs;have q5:=λr hr=>pC r (qo (hx.rs r hr).h1 (by decide)) (hx.rs r hr).h2 (qo (hx.rs r hr).h3 (by decide)) (hx.rs r hr).h4 (qo (hx.rs r hr).h5 (by decide)) (qo (hx.rs r hr).h6 (by decide));have hlr:=hx.lr;clear hx;obtain⟨kind,file,party,day,⟨cs,vs,ps⟩,rs,cl,fs,L,R,S⟩:=x;simp only[Th.V_eq,Nj,AH,Ext.V,Ext.cs,Th.cs,Th.vs,Th.ps]at*;simp at q1 q2 q3;simp only[Zw,At 29,AA 29 0,AA 29 1,AV];simp[AB,AA 29 3]
 let h0:List D:=[.v (.int .i64 kind),.v (.int .i64 file),.v (.int .i64 party),.v (.int .i64 day),.v (.list (cs.map (.int .i64))),.v (.list (vs.map Val.V)),.v (.list (ps.map Th.V)),.v (.list (rs.map Rgt.V)),.v (.list (cl.map Bh)),.v (.list (fs.map (.int .i64))),.v (.list (L.map (.int .u64))),.v (.list (R.map (.int .u64))),.v (.list (S.map (.int .u8)))]
 refine AM rs.length (λk=>⟨[(2,.ref 0 0),(3,.ref 1 0),(5,.v (.int .i64 k))],[.cells h0,.cells h0]⟩) (by simp[h0]) ?_;intro k hkl;simp only[Zw,BA 29 0,AA 29 4,h0];by_cases h1:k <rs.length
 ·obtain⟨x,hx⟩:∃x,rs[k]?=some x:=⟨_,qH h1⟩;have w1:=Bo k;have h2:(k:Int) <rs.length:=by omega
  have qx:=q5 x (qJ hx);simp only[Rgt.V,Rgt.cs,AH]at qx;simp[h2,AB];simp only[AW,AA 29 6];simp[hx,Rgt.V,Rgt.cs,AH];refine⟨_,_,⟨rfl,rfl⟩,_,qx,?_⟩;simp[AA 29 5,w1,h1]
 ·have hk2:k=rs.length:=by omega
  subst hk2;simp[AJ];simp only[AA 29 8];simp;refine⟨_,_,q1 _,?_⟩;simp only[AA 29 9];simp;refine⟨_,_,q2 _,?_⟩;simp only[AA 29 10];simp;refine⟨_,_,q3 _,?_⟩;simp only[AA 29 11];simp;refine⟨_,_,q4.fsp _,?_⟩;simp[AD,AX 29]
theorem oc:Cq Tryz.prog An 83 1 (cM 131 135 137) iY=true:=by kernel_rfl
def Ext.row (x:Ext):Row:= .cells (x.cs.map .v)
def Ext.mkR (x:Ext) (rs:List Rgt) (cl:List (Int×Int)):Row:=
 .cells [.v (.int .i64 x.kind),.v (.int .i64 x.file),.v (.int .i64 x.party),.v (.int .i64 x.day),.v (AH .i64 x.t.cs),.v (.list (x.t.vs.map Val.V)),.v (.list (x.t.ps.map Th.V)),.own 32 8 (rs.map Rgt.V),.own 186 2 (cl.map Bh),.v (AH .i64 x.fs),.v (AH .u64 x.L),.v (AH .u64 x.R),.v (AH .u8 x.S)]
theorem fI (x:Ext) (hn:x.rs.length≤2^30) (h83:∀r∈x.rs,PX 83 [r.V] [r.V]) (R1:Row):
  awp Tryz.prog An (.loop (lG 30 0)) (λe s=>e= .exit 0∧AF s.e 1= .ref 0 0∧AF s.e 2= .ref 1 0∧AF s.e 3= .ref 2 0∧s.h=[x.row,R1,x.mkR x.rs []])
   ⟨[(1,.ref 0 0),(2,.ref 1 0),(3,.ref 2 0),(4,.v (.int .i64 0))],[x.row,R1,x.mkR [] []]⟩:=by
 refine AM x.rs.length (λk=>⟨[(1,.ref 0 0),(2,.ref 1 0),(3,.ref 2 0),(4,.v (.int .i64 k))],[x.row,R1,x.mkR (x.rs.take k) []]⟩) (by simp) ?_;intro k hk;simp only[Zw,BA 30 0,AA 30 3];simp[Ext.row,Ext.cs];by_cases hlt:k <x.rs.length
 ·obtain⟨r,hxk⟩:∃r,x.rs[k]?=some r:=⟨_,qH hlt⟩;have hw:=Bo k;have hroom:AK (k+1) 144=true:=by simp[AK];omega
  have hm:min k x.rs.length=k:=by omega
  have e:=Cw hxk Rgt.V;have q:=h83 r (qJ hxk);simp only[Rgt.V,Rgt.cs,AH]at q;rw[if_pos (by omega),AB];simp only[AW,AA 30 5];simp[hxk,Rgt.V,Rgt.cs,Ext.mkR,AH];refine⟨_,_,⟨rfl,rfl⟩,_,q,?_⟩;simp[hm,hroom];simp[AA 30 4,hw,hlt,e,Rgt.V,Rgt.cs,AH]
 ·have:k=x.rs.length:=by omega
  subst this;rw[if_neg (by omega),AJ];simp
theorem fH (x:Ext) (hn:x.cl.length≤2^30) (R1:Row):
  awp Tryz.prog An (.loop (lG 30 1)) (λe s=>e= .exit 2∧AF s.e 1= .ref 0 0∧AF s.e 2= .ref 1 0∧AF s.e 3= .ref 2 0∧s.h=[x.row,R1,x.mkR x.rs x.cl])
   ⟨[(1,.ref 0 0),(2,.ref 1 0),(3,.ref 2 0),(5,.v (.int .i64 0))],[x.row,R1,x.mkR x.rs []]⟩:=by
 refine AM x.cl.length (λk=>⟨[(1,.ref 0 0),(2,.ref 1 0),(3,.ref 2 0),(5,.v (.int .i64 k))],[x.row,R1,x.mkR x.rs (x.cl.take k)]⟩) (by simp) ?_;intro k hk;simp only[Zw,BA 30 1,AA 30 7];simp[Ext.row,Ext.cs];by_cases hlt:k <x.cl.length
 ·obtain⟨r,hxk⟩:∃r,x.cl[k]?=some r:=⟨_,qH hlt⟩;have hw:=Bo k;have hroom:AK (k+1) 16=true:=by simp[AK];omega
  have hm:min k x.cl.length=k:=by omega
  have e:=Cw hxk Bh;rw[if_pos (by omega),AB];simp only[AW,AA 30 9];simp[hxk,Bh,Ext.mkR,AH,AS,hm,hroom];simp[AA 30 8,hw,hlt,e,Bh]
 ·have:k=x.cl.length:=by omega
  subst this;rw[if_neg (by omega),AJ];simp
theorem oV (x:Ext) (h1:x.rs.length≤2^30) (h2:x.cl.length≤2^30) (h83:∀r∈x.rs,PX 83 [r.V] [r.V]):PX 30 [x.V] [x.V]:=by
 refine BU 30 ?_;have q0:=λR1=>fI x h1 h83 R1;have q1:=λR1=>fH x h2 R1;simp only[Ext.mkR,Ext.row,Ext.cs,rW]at q0 q1;simp only[At 30,AE,AG,AU,AA 30 0,AA 30 1,AV];simp[Ext.V,Ext.cs,AS,AA 30 2];refine AZ _ ?_ (q0 _);rintro e ⟨se,sh⟩ ⟨rfl,f1,f2,f3,hh⟩;simp only at f1 f2 f3 hh;subst hh;simp[AA 30 6,f1,f2,f3];refine AZ _ ?_ (q1 _);rintro e ⟨se,sh⟩ ⟨rfl,f1,f2,f3,hh⟩;simp only at f1 f2 f3 hh;subst hh;simp[AA 30 10,f2,f3,AD,AX 30,D.vs?,D.v?,AS,AH]
def CZ (x:Val):List Int:=AN x.a++(AN x.n++AN x.d)
mutual
def BD:Th→List Int| .mk cs vs ps=>Ah cs++(AN vs.length++(vs.flatMap CZ++(AN ps.length++C9 ps)))
def C9:List Th→List Int|[]=>[]|k::ks=>BD k++C9 ks
end
theorem D6:∀l,C9 l=l.flatMap BD
 |[]=>rfl
 |k::ks=>by rw[C9,D6 ks,qN]
inductive Th.full:Th→Prop
 |mk {cs vs ps} (h0:∀c∈cs,i64 c) (h1:cs.length≤2^30) (h2:vs.length≤2^30) (h3:ps.length≤2^30) (h4:∀x∈vs,Val.ok x) (h5:∀p∈ps,Th.full p):Th.full (.mk cs vs ps)
theorem Th.full.ok {t:Th} (h:t.full):t.ok:=by
 induction h with
 |mk h0 h1 h2 h3 h4 h5 ih=>exact .mk h1 h2 h3 h4 ih
variable {h:List Row}
theorem Qo {w:Nat} {xs:List Int} (hl:Low h):Low (h.set w (wr xs)):=by
 intro row hrow;rw[rD];rcases rn hrow with h1|rfl
 ·exact hl row h1
 ·rfl
theorem kB (x:Val):PX 280 [x.V] [.agg [.int .i64 x.a,.int .i64 x.n,.int .i64 x.d]]:=by
 refine BU 280 ?_;simp[At 280,awp,AA 280 0,AA 280 1,AX 280,AV,Val.V,AS]
theorem fX (x:Val) (hx:x.ok) (H:List Row) (w:Nat) (ys:List Int) (hw:H[w]?=some (wr ys)) (hb:ys.length≤2^44) (d0 d3 d20 d21 d22:D) (h0:d0= .ref w 0) (Q:AExit→St→Prop)
  (hQ:∀e,AF e 0=d0→AF e 3=d3→AF e 20=d20→AF e 21=d21→AF e 22=d22→Q (.exit 2) ⟨e,H.set w (wr (ys++CZ x))⟩):
  awp Tryz.prog An (.loop (lG 191 1)) Q ⟨[(0,d0),(3,d3),(20,d20),(21,d21),(22,d22),(27,.v (.agg [.int .i64 x.a,.int .i64 x.n,.int .i64 x.d])),(28,.v (.int .i64 0))],H⟩:=by
 subst h0;have l1:=AO x.a;have l2:=AO x.n;refine AM 3 (λk=>⟨[(0,.ref w 0),(3,d3),(20,d20),(21,d21),(22,d22),(27,.v (.agg [.int .i64 x.a,.int .i64 x.n,.int .i64 x.d])),(28,.v (.int .i64 k))],
  H.set w (wr (ys++match k with|0=>[]|1=>AN x.a|2=>AN x.a++AN x.n|_=>CZ x))⟩) ?_ ?_
 ·obtain⟨g1,g2⟩:=qK.1 hw;simp[←g2]
 intro k hk;simp only[Zw,BA 191 1,AA 191 7];have hk4:k=0∨k=1∨k=2∨k=3:=by omega
 rcases hk4 with rfl|rfl|rfl|rfl
 ·simp[AB];simp only[AA 191 8,AA 191 9];simp;refine⟨_,_,(MN x.a hx.1 _ w ys (Aq hw) (by omega)),?_⟩;simp[AA 191 10];rfl
 ·simp[AB];simp only[AA 191 8,AA 191 9];simp;refine⟨_,_,(MN x.n hx.2.1 _ w (ys++AN x.a) (Aq hw) (by rw[qG];omega)),?_⟩;simp[AA 191 10];rfl
 ·simp[AB];simp only[AA 191 8,AA 191 9];simp;refine⟨_,_,(MN x.d hx.2.2 _ w (ys++(AN x.a++AN x.n)) (Aq hw) (by simp only[qG];omega)),?_⟩;simp[AA 191 10,CZ];rfl
 ·simp[AJ];exact hQ _ rfl rfl rfl rfl rfl
theorem Iv (x:Val):(CZ x).length≤30:=by
 have l1:=AO x.a;have l2:=AO x.n;have l3:=AO x.d;simp only[CZ,qG];omega
theorem fY (vs:List Val) (hv:∀x∈vs,Val.ok x) (hn:vs.length≤2^30) (h:List Row) (w:Nat) (ys:List Int) (C:List D) (hw:h[w]?=some (wr ys)) (hb:ys.length≤2^43) (Q:AExit→St→Prop)
  (hQ:∀e J,Lows J→AF e 0= .ref w 0→AF e 3= .ref h.length 0→Q (.exit 0) ⟨e,h.set w (wr (ys++vs.flatMap CZ))++ .cells C::J⟩):
  awp Tryz.prog An (.loop (lG 191 0)) Q ⟨[(0,.ref w 0),(3,.ref h.length 0),(20,.v (.list (vs.map Val.V))),(21,.v (.int .i64 vs.length)),(22,.v (.int .i64 0))],h++[.cells C]⟩:=by
 have fl:∀l:List Val,(l.flatMap CZ).length≤30*l.length:=by
  intro l;induction l with
  |nil=>simp
  |cons x l ih=>have:=Iv x;simp only[qN,qG,qT];omega
 refine Al vs.length (λk s=>∃e J,s=⟨e,h.set w (wr (ys++(vs.take k).flatMap CZ))++ .cells C::J⟩∧Lows J∧AF e 0= .ref w 0∧AF e 3= .ref h.length 0∧AF e 20= .v (.list (vs.map Val.V))∧AF e 21= .v (.int .i64 vs.length)∧AF e 22= .v (.int .i64 k)) ?_ ?_
 ·refine⟨[(0,.ref w 0),(3,.ref h.length 0),(20,.v (.list (vs.map Val.V))),(21,.v (.int .i64 vs.length)),(22,.v (.int .i64 0))],[],?_,Lows.nil,rfl,rfl,rfl,rfl,rfl⟩;obtain⟨g1,g2⟩:=qK.1 hw;simp[←g2]
 rintro k s hk ⟨e,J,rfl,hJ,e0,e3,oB,e21,e22⟩;simp only[Zw,BA 191 0,AA 191 4];simp[e0,e3,oB,e21,e22];by_cases h1:k <vs.length
 ·obtain⟨x,hx⟩:∃x,vs[k]?=some x:=⟨_,qH h1⟩;have hxo:=hv x (qJ hx);have hw1:=Bo k;have q:=(kB x).fsp;have ht:(vs.take k).length≤2^30:=by simp;omega
  have hf:=fl (vs.take k);rw[if_pos (by omega),AB];simp only[AA 191 5,AA 191 6];obtain⟨xa,xn,xd⟩:=x;simp[Val.V]at q;simp[hx,Val.V,AS];refine⟨_,_,q _,?_⟩;simp;refine fX ⟨xa,xn,xd⟩ hxo _ w (ys++(vs.take k).flatMap CZ) (by rw[qe (by rw[rD];exact Di hw)];exact Aq hw) (by rw[qG];omega) _ _ _ _ _ rfl _ ?_;intro e2 f0 f3 f20 f21 f22;simp[f0,f3,f20,f21,f22,AA 191 11,hw1,h1];refine⟨_,J++[.cells [.v (.int .i64 xa),.v (.int .i64 xn),.v (.int .i64 xd)]],⟨rfl,?_⟩,hJ.app λn=>rfl,rfl,rfl,rfl,rfl,rfl⟩;rw[rp _ _ (by rw[rD];exact Di hw),rI,Av h1];have hg:vs[k]=⟨xa,xn,xd⟩:=by rw[qH h1]at hx;exact re hx
  simp[hg]
 ·have hk2:k=vs.length:=by omega
  subst hk2;rw[if_neg (by omega),AJ];simp only[qm];exact hQ _ J hJ rfl rfl
theorem fW (ps:List Th) (ih:∀p∈ps,∀(h:List Row) (w:Nat) (xs:List Int),Low h→h[w]?=some (wr xs)→xs.length+(BD p).length≤2^43→FX 191 [.ref w 0,.v p.V] h [] (h.set w (wr (xs++BD p))))
  (hn:ps.length≤2^30) (h:List Row) (hl:Low h) (w:Nat) (ys:List Int) (T:List Row) (hT:Lows T) (hw:h[w]?=some (wr ys)) (hb:ys.length+(C9 ps).length≤2^43) (Q:AExit→St→Prop)
  (hQ:∀e J,Q (.exit 4) ⟨e,h.set w (wr (ys++C9 ps))++J⟩):
  awp Tryz.prog An (.loop (lG 191 2)) Q ⟨[(0,.ref w 0),(42,.v (.list (ps.map Th.V))),(43,.v (.int .i64 ps.length)),(44,.v (.int .i64 0))],h++T⟩:=by
 rw[D6]at hb hQ;refine Al ps.length (λk s=>∃J,s=⟨[(0,.ref w 0),(42,.v (.list (ps.map Th.V))),(43,.v (.int .i64 ps.length)),(44,.v (.int .i64 k))],h.set w (wr (ys++(ps.take k).flatMap BD))++J⟩∧Lows J) ?_ ?_
 ·refine⟨T,?_,hT⟩;obtain⟨g1,g2⟩:=qK.1 hw;simp[←g2]
 rintro k s hk ⟨J,rfl,hJ⟩;simp only[Zw,BA 191 2,AA 191 14];simp;by_cases h1:k <ps.length
 ·obtain⟨x,hx⟩:∃x,ps[k]?=some x:=⟨_,qH h1⟩;have hg:ps[k]=x:=by rw[qH h1]at hx;exact re hx
  have hw1:=Bo k;have hlen:((ps.take (k+1)).flatMap BD).length≤(ps.flatMap BD).length:=by
   conv=>rhs;rw[←rJ (k+1) ps]
   rw[rP,qG];omega
  have hft:=Av (f:=BD) h1;rw[hft,hg,qG]at hlen;have hwl:=Di hw;have q:=ih x (qJ hx) ((h.set w (wr (ys++(ps.take k).flatMap BD))++J)++[.cells (x.cells)]) w (ys++(ps.take k).flatMap BD)
   (((Qo hl).lows hJ).app (by cases x;rfl)) (Az _ (Az _ (Aq hw))) (by rw[qG];omega)
  rw[if_pos (by omega),AB];simp only[AA 191 15,AA 191 16];obtain⟨xc,xv,xp⟩:=x;simp[Th.V_eq,Th.cells,Th.cs,Th.vs,Th.ps,AH]at q;simp[hx,Th.V_eq,AS,AH];refine⟨_,_,q,?_⟩;simp[AA 191 17,hw1,h1];refine⟨J++[.cells (Th.mk xc xv xp).cells],?_,hJ.app λn=>rfl⟩;rw[rp _ _ (by rw[rD];exact hwl),rI,hft,hg];simp[Th.cells,Th.cs,Th.vs,Th.ps,AH]
 ·have hk2:k=ps.length:=by omega
  subst hk2;rw[if_neg (by omega),AJ];simp only[qm];exact hQ _ J
theorem lO:∀t:Th,t.full→∀(h:List Row) (w:Nat) (xs:List Int),Low h→h[w]?=some (wr xs)→xs.length+(BD t).length≤2^43→FX 191 [.ref w 0,.v t.V] h [] (h.set w (wr (xs++BD t))):=by
 refine Th.ind λcs vs ps ih hf h w xs hl hw hb=>?_;obtain⟨h0,h1,h2,h3,h4,h5⟩:=hf;have hwl:=Di hw;refine CW (KN 191) rfl (by simp) (by rw[rD];exact λrow hrow=>by have:=Qo (xs:=xs++BD (.mk cs vs ps)) hl row hrow;rwa [rD]at this) (by simp) ?_;rw[BD]at hb ⊢;simp only[qG]at hb;have k2:i64 (vs.length:Int):=by unfold i64;omega
 have k3:i64 (ps.length:Int):=by unfold i64;omega
 obtain⟨G,hG⟩:∃G,h.set w (wr (xs++(Ah cs++(AN vs.length++(vs.flatMap CZ++(AN ps.length++C9 ps))))))=G:=⟨_,rfl⟩;rw[hG];simp only[At 191,AE,AG,AU,AA 191 0,AA 191 1,Ab];simp[Th.V_eq,AH];have q1:=Ub cs h0 (by omega) (h++[.cells (Th.mk cs vs ps).cells]) w xs (Az _ hw) (by omega);simp only[Th.cells,Th.cs,Th.vs,Th.ps,AH]at q1;rw[I8 _ hw]at q1;refine⟨_,_,q1,?_⟩;simp only[AA 191 2];simp;have q2:=MN vs.length k2 (h.set w (wr (xs++Ah cs))++[.cells (Th.mk cs vs ps).cells]) w (xs++Ah cs) (Az _ (Aq hw)) (by rw[qG];omega);simp only[Th.cells,Th.cs,Th.vs,Th.ps,AH]at q2;rw[I8 _ (Aq hw),rI]at q2;refine⟨_,_,q2,?_⟩;simp only[AA 191 3];simp;have lh:(h.set w (wr (xs++Ah cs++AN vs.length))).length=h.length:=rD;have q3:=fY vs h4 h2 (h.set w (wr (xs++Ah cs++AN vs.length))) w (xs++Ah cs++AN vs.length) (Th.mk cs vs ps).cells (Aq hw) (by simp only[qG];omega);rw[lh]at q3;simp only[Th.cells,Th.cs,Th.vs,Th.ps,AH]at q3;simp only[qg]at q3;refine q3 _ ?_;intro e J hJ e0 e3;simp;simp only[AA 191 12];simp[e0,e3];have q4:=MN ps.length k3 (h.set w (wr (xs++(Ah cs++(AN vs.length++vs.flatMap CZ))))++ .cells (Th.mk cs vs ps).cells::J) w (xs++(Ah cs++(AN vs.length++vs.flatMap CZ))) (Az _ (Aq hw)) (by simp only[qG];omega);simp only[Th.cells,Th.cs,Th.vs,Th.ps,AH]at q4;rw[I8 _ (Aq hw),rI]at q4;refine⟨_,_,q4,?_⟩;simp only[AA 191 13];simp;have q5:=fW ps (λp hp h w xs hl hw hb=>ih p hp (h5 p hp) h w xs hl hw hb) h3 (h.set w (wr (xs++(Ah cs++(AN vs.length++vs.flatMap CZ))++AN ps.length))) (Qo hl) w (xs++(Ah cs++(AN vs.length++vs.flatMap CZ))++AN ps.length)
  (.cells (Th.mk cs vs ps).cells::J) (λrow hrow n=>(qL.1 hrow).elim (λh=>by rw[h];rfl) λh=>hJ row h n) (Aq hw) (by simp only[qG];omega)
 simp only[Th.cells,Th.cs,Th.vs,Th.ps,AH]at q5;simp only[qg]at q5;refine q5 _ ?_;intro e J;simp[AX 191];exact⟨J,by rw[←hG]⟩
theorem o8 (t:Th) (hf:t.full) (hb:(BD t).length≤2^43):PX 97 [t.V] [AH .u8 (if F5 t=0 then BD t else []),.int .i64 (F5 t)]:=by
 refine BU 97 ?_;obtain⟨E,hE⟩:∃E,F5 t=E:=⟨_,rfl⟩;have q1:=(oO t hf.ok).fsp;have q2:=lO t hf [.cells t.cells,wr []] 1 [] (by intro row hrow;simp at hrow;rcases hrow with rfl|rfl<;>rfl) rfl (by simpa using hb)
 rw[hE]at q1 ⊢;simp only[At 97,AE,AG,AL,AA 97 0,AA 97 1,AV];obtain⟨cs,vs,ps⟩:=t;simp[Th.V_eq,Th.cells,Th.cs,Th.vs,Th.ps]at q1 q2 ⊢;rw[show wr []= .cells [.own 5 1 []] from rfl]at q2;refine⟨_,_,q1 _,?_⟩;simp only[AA 97 2];by_cases h:E=0
 ·simp[h,AB];simp only[AA 97 4,AA 97 5];simp;refine⟨_,_,q2,?_⟩;simp only[AA 97 6];simp;refine⟨_,_,(Sp _ 1 (BD (.mk cs vs ps)) rfl (by omega)),?_⟩;simp[AD,AX 97,AH]
 ·simp[h,AD,AA 97 3,AX 97,AH]
def EN (l:List Int):List Int:=AN l.length++l.flatMap CY
def Cp (L R S:List Int):List Int:=AY S++(EN L++EN R)
theorem BJ:∀l:List Int,(l.flatMap CY).length≤10*l.length
 |[]=>by simp
 |x::l=>by
  have:=Aw x;have:=BJ l;simp only[qN,qG,qT];omega
theorem fv (l:List Int) (hl:∀x∈l,u64 x) (hn:l.length≤2^40) (H:List Row) (w:Nat) (ys:List Int) (hw:H[w]?=some (wr ys)) (hb:ys.length≤2^44) (d3 d15 d16 d17:D) (h3:d3= .ref w 0) (Q:AExit→St→Prop)
  (hQ:∀e,AF e 3=d3→AF e 15=d15→AF e 16=d16→AF e 17=d17→Q (.exit 2) ⟨e,H.set w (wr (ys++l.flatMap CY))⟩):
  awp Tryz.prog An (.loop (lG 101 1)) Q ⟨[(3,d3),(15,d15),(16,d16),(17,d17),(24,.v (.list (l.map (.int .u64)))),(25,.v (.int .i64 l.length)),(26,.v (.int .i64 0))],H⟩:=by
 subst h3;refine AM l.length (λk=>⟨[(3,.ref w 0),(15,d15),(16,d16),(17,d17),(24,.v (.list (l.map (.int .u64)))),(25,.v (.int .i64 l.length)),(26,.v (.int .i64 k))],H.set w (wr (ys++(l.take k).flatMap CY))⟩) ?_ ?_
 ·obtain⟨g1,g2⟩:=qK.1 hw;simp[←g2]
 intro k hk;simp only[Zw,BA 101 1,AA 101 8];simp;by_cases h1:k <l.length
 ·obtain⟨x,hx⟩:∃x,l[k]?=some x:=⟨_,qH h1⟩;have hg:l[k]=x:=by rw[qH h1]at hx;exact re hx
  have hw1:=Bo k;have hf:=BJ (l.take k);have ht:(l.take k).length≤2^40:=by simp;omega
  rw[if_pos (by omega),AB];simp only[AA 101 9,AA 101 10];simp[hx];refine⟨_,_,(Wr x (hl x (qJ hx)) _ w (ys++(l.take k).flatMap CY) (Aq hw) (by rw[qG];omega)),?_⟩;simp[AA 101 11,hw1,h1];rw[Av h1,hg]
 ·have hk2:k=l.length:=by omega
  subst hk2;rw[if_neg (by omega),AJ];simp only[qm];exact hQ _ rfl rfl rfl rfl
theorem mM (L R S:List Int) (hL:∀x∈L,u64 x) (hR:∀x∈R,u64 x) (hS:∀x∈S,0≤x∧x <256) (nL:L.length≤2^39) (nR:R.length≤2^39) (nS:S.length≤2^40):
  PX 101 [.agg [AH .u64 L,AH .u64 R,AH .u8 S]] [AH .u8 (Cp L R S)]:=by
 refine BU 101 ?_;have kL:i64 (L.length:Int):=by unfold i64;omega
 have kR:i64 (R.length:Int):=by unfold i64;omega
 have fL:=BJ L;have fR:=BJ R;have lL:=AO L.length;have lR:=AO R.length;have lS:(AY S).length≤2^41:=by have:=Aw S.length;unfold AY;rw[qG];omega
 simp only[At 101,AE,AG,AU,AA 101 0,AA 101 1,AA 101 2,AV];simp[AH];refine⟨_,_,(cP S hS nS _ 1 [] rfl (by simp)),?_⟩;simp only[AA 101 3];simp;refine AM 2 (λk=>⟨[(3,.ref 1 0),(15,.own 61 1 [AH .u64 L,AH .u64 R]),(16,.v (.int .i64 2)),(17,.v (.int .i64 k))],
  [.cells [.v (AH .u64 L),.v (AH .u64 R),.v (AH .u8 S)],wr (AY S++match k with|0=>[]|1=>EN L|_=>EN L++EN R)]⟩) ?_ ?_
 ·simp[AH,wr]
 intro k hk;simp only[Zw,BA 101 0,AA 101 4];have hk3:k=0∨k=1∨k=2:=by omega
 rcases hk3 with rfl|rfl|rfl
 ·simp[AB];simp only[AA 101 5,AA 101 6];simp[AH];refine⟨_,_,(MN L.length kL _ 1 (AY S) rfl (by omega)),?_⟩;simp only[AA 101 7];simp;refine fv L hL (by omega) _ 1 (AY S++AN L.length) rfl (by rw[qG];omega) _ _ _ _ rfl _ ?_;intro e e3 e15 e16 e17;simp[e3,e15,e16,e17,AA 101 12,EN];rfl
 ·simp[AB];simp only[AA 101 5,AA 101 6];simp[AH];refine⟨_,_,(MN R.length kR _ 1 (AY S++EN L) rfl (by simp only[EN,qG];omega)),?_⟩;simp only[AA 101 7];simp;refine fv R hR (by omega) _ 1 (AY S++(EN L++AN R.length)) rfl (by simp only[EN,qG];omega) _ _ _ _ rfl _ ?_;intro e e3 e15 e16 e17;simp[e3,e15,e16,e17,AA 101 12,EN];rfl
 ·simp[AJ];simp only[AA 101 13];simp;refine⟨_,_,(Sp _ 1 (AY S++(EN L++EN R)) rfl (by simp only[EN,qG];omega)),?_⟩;simp[AD,AX 101,AH,Cp]
theorem Uj:∀vs:List Val,(Ij vs).flatMap AN=vs.flatMap CZ:=by
 intro vs;induction vs with
 |nil=>rfl
 |cons x l ih=>simp[Ij,CZ]at ih ⊢;rw[ih]
theorem Ui {vs:List Val} (h:∀x∈vs,Val.ok x):∀n∈Ij vs,i64 n:=by
 intro n hn;simp[Ij]at hn;obtain⟨x,hx,rfl|rfl|rfl⟩:=hn
 ·exact(h x hx).1
 ·exact(h x hx).2.1
 ·exact(h x hx).2.2
theorem ft (l:List Int) (hl:∀x∈l,i64 x) (hn:l.length≤2^40) (H:List Row) (ys:List Int) (hb:ys.length≤2^43) (d1:D) (Q:AExit→St→Prop)
  (hQ:∀e,AF e 1=d1→AF e 3= .own 5 1 ((ys++l.flatMap AN).map (.int .u8))→Q (.exit 0) ⟨e,H⟩):
  awp Tryz.prog An (.loop (lG 106 0)) Q ⟨[(1,d1),(3,.own 5 1 (ys.map (.int .u8))),(4,.v (AH .i64 l)),(5,.v (.int .i64 0))],H⟩:=by
 refine AM l.length (λk=>⟨[(1,d1),(3,.own 5 1 ((ys++(l.take k).flatMap AN).map (.int .u8))),(4,.v (AH .i64 l)),(5,.v (.int .i64 k))],H⟩) (by simp[AH]) ?_;intro k hk;simp only[Zw,BA 106 0,AA 106 5];simp[AH];by_cases h1:k <l.length
 ·have hx:l[k]?=some l[k]:=qH h1;have hw:=Bo k;rw[if_pos (by omega),AB];simp only[AA 106 7];simp[hx];refine⟨_,_,(Fl l[k] (hl _ (rl h1)) H),?_⟩;have hf:=Au (l.take k);have he:=AO l[k];have ht:(l.take k).length=k:=by simp;omega
  have hroom:AK (ys.length+((l.take k).flatMap AN).length+(AN l[k]).length) 1=true:=by simp[AK,-List.length_flatMap];omega
  simp[hroom,h1,hw,AA 106 6,-List.length_flatMap];rw[Av h1];simp
 ·have:k=l.length:=by omega
  subst this;rw[if_neg (by omega),AJ];refine hQ _ rfl ?_;simp
theorem fq (ps:List Th) (ih:∀p∈ps,PX 106 [p.V] [AH .u8 (BD p)]) (hn:ps.length≤2^30) (c0 c1:D) (ys:List Int) (hb:ys.length+(C9 ps).length≤2^43) (Q:AExit→St→Prop)
  (hQ:∀e,AF e 3= .own 5 1 ((ys++C9 ps).map (.int .u8))→Q (.exit 2) ⟨e,[.cells [c0,c1,.v (.list (ps.map Th.V))]]⟩):
  awp Tryz.prog An (.loop (lG 106 1)) Q ⟨[(1,.ref 0 0),(3,.own 5 1 (ys.map (.int .u8))),(6,.v (.int .i64 0))],[.cells [c0,c1,.v (.list (ps.map Th.V))]]⟩:=by
 rw[D6]at hb hQ;refine AM ps.length (λk=>⟨[(1,.ref 0 0),(3,.own 5 1 ((ys++(ps.take k).flatMap BD).map (.int .u8))),(6,.v (.int .i64 k))],[.cells [c0,c1,.v (.list (ps.map Th.V))]]⟩) (by simp) ?_;intro k hk;simp only[Zw,BA 106 1,AA 106 10];simp;by_cases h1:k <ps.length
 ·obtain⟨x,hx⟩:∃x,ps[k]?=some x:=⟨_,qH h1⟩;have hg:ps[k]=x:=by rw[qH h1]at hx;exact re hx
  have hw:=Bo k;have q:=(ih x (qJ hx)).fsp;have hlen:((ps.take (k+1)).flatMap BD).length≤(ps.flatMap BD).length:=by
   conv=>rhs;rw[←rJ (k+1) ps]
   rw[rP,qG];omega
  have hft:=Av (f:=BD) h1;rw[hft,hg,qG]at hlen;have hroom:AK (ys.length+((ps.take k).flatMap BD).length+(BD x).length) 1=true:=by simp[AK,-List.length_flatMap];omega
  rw[if_pos (by omega),AB];simp only[AA 106 12];obtain⟨xc,xv,xp⟩:=x;simp[Th.V_eq]at q;simp[hx,Th.V_eq];refine⟨_,_,q _,?_⟩;simp[AH,hroom,h1,hw,AA 106 11,-List.length_flatMap];rw[hft,hg];simp
 ·have:k=ps.length:=by omega
  subst this;rw[if_neg (by omega),AJ];refine hQ _ ?_;simp
theorem mL:∀t:Th,t.full→(BD t).length≤2^42→PX 106 [t.V] [AH .u8 (BD t)]:=by
 refine Th.ind λcs vs ps ih hf hb=>?_;obtain⟨h0,h1,h2,h3,h4,h5⟩:=hf;refine BU 106 ?_;rw[BD]at hb ⊢;simp only[qG]at hb;obtain⟨G,hG⟩:∃G,Ah cs++(AN vs.length++(vs.flatMap CZ++(AN ps.length++C9 ps)))=G:=⟨_,rfl⟩;rw[hG];have k2:i64 (vs.length:Int):=by unfold i64;omega
 have k3:i64 (ps.length:Int):=by unfold i64;omega
 have r1:AK ((Ah cs).length+(AN vs.length).length) 1=true:=by simp[AK];omega
 have r2:AK ((Ah cs).length+((AN vs.length).length+(vs.flatMap CZ).length)+(AN ps.length).length) 1=true:=by simp[AK,-List.length_flatMap];omega
 simp only[At 106,AE,AG,AU,AA 106 0,AA 106 1,AV];simp[Th.V_eq,AH];have q1:=Ws cs h0 (by omega) [.cells (Th.mk cs vs ps).cells];simp only[Th.cells,Th.cs,Th.vs,Th.ps,AH]at q1;refine⟨_,_,q1,?_⟩;simp only[AA 106 2];simp;refine⟨_,_,(Fl vs.length k2 _),?_⟩;simp[r1];simp only[AA 106 3];simp;have q3:=(dt vs h2).fsp;refine⟨_,_,q3 _,?_⟩;simp only[AA 106 4];simp;have q4:=ft (Ij vs) (Ui h4) (by rw[Lh];omega) [.cells (Th.mk cs vs ps).cells] (Ah cs++AN vs.length) (by rw[qG];omega) (.ref 0 0);simp only[Th.cells,Th.cs,Th.vs,Th.ps,AH,Uj,qh]at q4;simp only[AH];refine q4 _ ?_;intro e e1 e3;simp;simp only[AA 106 8];simp[e1,e3];refine⟨_,_,(Fl ps.length k3 _),?_⟩;simp[r2,-List.length_flatMap];simp only[AA 106 9];simp[e1];have q5:=fq ps (λp hp=>ih p hp (h5 p hp) (by
  have:(BD p).length≤(C9 ps).length:=by
   rw[D6];obtain⟨a,b,rfl⟩:=List.append_of_mem hp;simp only[rP,qN,qG];omega
  omega)) h3 (.v (AH .i64 cs)) (.v (.list (vs.map Val.V))) (Ah cs++(AN vs.length++(vs.flatMap CZ++AN ps.length))) (by simp only[qG];omega)
 simp only[AH,qh]at q5;refine q5 _ ?_;intro e e3;simp[AA 106 13,e3,AD,AX 106,←hG]
theorem fj (L R:List Int) (d2:D) (hl:∀x∈L,u64 x) (hn:L.length≤2^39) (ys:List Int) (hb:ys.length≤2^43) (Q:AExit→St→Prop)
  (hQ:∀e,AF e 1= .ref 0 0→AF e 3= .own 5 1 ((ys++L.flatMap CY).map (.int .u8))→Q (.exit 0) ⟨e,[.cells [.v (AH .u64 L),.v (AH .u64 R),d2]]⟩):
  awp Tryz.prog An (.loop (lG 108 0)) Q ⟨[(1,.ref 0 0),(3,.own 5 1 (ys.map (.int .u8))),(4,.v (.int .i64 0))],[.cells [.v (AH .u64 L),.v (AH .u64 R),d2]]⟩:=by
 refine AM L.length (λk=>⟨[(1,.ref 0 0),(3,.own 5 1 ((ys++(L.take k).flatMap CY).map (.int .u8))),(4,.v (.int .i64 k))],[.cells [.v (AH .u64 L),.v (AH .u64 R),d2]]⟩) (by simp) ?_;intro k hk;simp only[Zw,BA 108 0,AA 108 4];simp[AH];by_cases h1:k <L.length
 ·have hx:L[k]?=some L[k]:=qH h1;have hw:=Bo k;rw[if_pos (by omega),AB];simp only[AA 108 6];simp[hx];refine⟨_,_,(Sn L[k] (hl _ (rl h1)) _),?_⟩;have hf:=BJ (L.take k);have he:=Aw L[k];have ht:(L.take k).length=k:=by simp;omega
  have hroom:AK (ys.length+((L.take k).flatMap CY).length+(CY L[k]).length) 1=true:=by simp[AK,-List.length_flatMap];omega
  simp[hroom,h1,hw,AA 108 5,-List.length_flatMap];rw[Av h1];simp
 ·have:k=L.length:=by omega
  subst this;rw[if_neg (by omega),AJ];simp only[AH]at hQ;refine hQ _ rfl ?_;simp
theorem fg (L R:List Int) (d2:D) (hl:∀x∈R,u64 x) (hn:R.length≤2^39) (ys:List Int) (hb:ys.length≤2^43) (Q:AExit→St→Prop)
  (hQ:∀e,AF e 1= .ref 0 0→AF e 3= .own 5 1 ((ys++R.flatMap CY).map (.int .u8))→Q (.exit 2) ⟨e,[.cells [.v (AH .u64 L),.v (AH .u64 R),d2]]⟩):
  awp Tryz.prog An (.loop (lG 108 1)) Q ⟨[(1,.ref 0 0),(3,.own 5 1 (ys.map (.int .u8))),(5,.v (.int .i64 0))],[.cells [.v (AH .u64 L),.v (AH .u64 R),d2]]⟩:=by
 refine AM R.length (λk=>⟨[(1,.ref 0 0),(3,.own 5 1 ((ys++(R.take k).flatMap CY).map (.int .u8))),(5,.v (.int .i64 k))],[.cells [.v (AH .u64 L),.v (AH .u64 R),d2]]⟩) (by simp) ?_;intro k hk;simp only[Zw,BA 108 1,AA 108 9];simp[AH];by_cases h1:k <R.length
 ·have hx:R[k]?=some R[k]:=qH h1;have hw:=Bo k;rw[if_pos (by omega),AB];simp only[AA 108 11];simp[hx];refine⟨_,_,(Sn R[k] (hl _ (rl h1)) _),?_⟩;have hf:=BJ (R.take k);have he:=Aw R[k];have ht:(R.take k).length=k:=by simp;omega
  have hroom:AK (ys.length+((R.take k).flatMap CY).length+(CY R[k]).length) 1=true:=by simp[AK,-List.length_flatMap];omega
  simp[hroom,h1,hw,AA 108 10,-List.length_flatMap];rw[Av h1];simp
 ·have:k=R.length:=by omega
  subst this;rw[if_neg (by omega),AJ];simp only[AH]at hQ;refine hQ _ rfl ?_;simp
theorem mK (L R S:List Int) (hL:∀x∈L,u64 x) (hR:∀x∈R,u64 x) (nL:L.length≤2^39) (nR:R.length≤2^39) (nS:S.length≤2^40):
  PX 108 [.agg [AH .u64 L,AH .u64 R,AH .u8 S]] [AH .u8 (Cp L R S)]:=by
 refine BU 108 ?_;have kL:i64 (L.length:Int):=by unfold i64;omega
 have kR:i64 (R.length:Int):=by unfold i64;omega
 have fL:=BJ L;have fR:=BJ R;have lL:=AO L.length;have lR:=AO R.length;have lS:(AY S).length≤2^41:=by have:=Aw S.length;unfold AY;rw[qG];omega
 have r1:AK ((AY S).length+(AN L.length).length) 1=true:=by simp[AK];omega
 have r2:AK ((AY S).length+((AN L.length).length+(L.flatMap CY).length)+(AN R.length).length) 1=true:=by simp[AK,-List.length_flatMap];omega
 simp only[At 108,AE,AG,AU,AA 108 0,AA 108 1,AV];simp[AH];refine⟨_,_,(So S (by omega) _),?_⟩;simp only[AA 108 2];simp;refine⟨_,_,(Fl L.length kL _),?_⟩;simp[r1];simp only[AA 108 3];simp;have q1:=fj L R (.v (AH .u8 S)) hL nL (AY S++AN L.length) (by rw[qG];omega);simp only[AH,qh]at q1;refine q1 _ ?_;intro e e1 e3;simp;simp only[AA 108 7];simp[e1,e3];refine⟨_,_,(Fl R.length kR _),?_⟩;simp[r2,-List.length_flatMap];simp only[AA 108 8];simp[e1];have q2:=fg L R (.v (AH .u8 S)) hR nR (AY S++(AN L.length++(L.flatMap CY++AN R.length))) (by simp only[qG];omega);simp only[AH,qh]at q2;refine q2 _ ?_;intro e e1 e3;simp[AA 108 12,e3,AD,AX 108,Cp,EN]
end Go.Va
