/- Laws that ExtractBytes leans on, part 35. No condition of its own. -/
import Derived.Test.YtopldfpkgbkomaaGreatDoorL23
import Derived.Test.YtopldfpkgbkomaaGreatDoorL24
import Derived.Test.YtopldfpkgbkomaaGreatDoorL33
import Derived.Test.YtopldfpkgbkomaaGreatDoorL34
set_option linter.all false
set_option maxRecDepth 100000
set_option maxHeartbeats 4000000
noncomputable section
namespace Go.Va
open Go.Proofs
theorem UU (A y:List V) (Z:List D) (o:Nat) (h:o+y.length≤A.length):AS (A.map D.v++Z) o (y.map D.v)=(A.take o++(y++A.drop (o+y.length))).map D.v++Z:=by
 unfold AS;rw[sk (by simp;omega),List.drop_append_of_le_length (by simp;omega)];simp[rE,ro]
section
variable {cs:List Int} {vs:List Val} {ps:List Th} (h1:cs.length≤1000) (h2:vs.length≤1000) (h3:ps.length≤1000) (a h b:Int)
include h1 h2 h3
theorem Zc (hps:ps≠[]) (Q:AExit→St→Prop) (hQ:∀k,awp Tryz.prog An HK Q ⟨ae a h b,[.cells (Th.mk cs vs ps).cells,z26,.cells [.own 3 1 (cs.map (.int .i64)),.own 171 3 (vs.map Val.V),.sref 3 ps.length],.cells ((ps.flatMap fT).map .v++List.replicate k .any)]⟩):
  awp Tryz.prog An (gA 26) Q ⟨Ab [.v (Th.mk cs vs ps).V,.v (.int .i64 a),.v (.int .i64 h),.v (.int .i64 b)],[]⟩:=
 UX h1 h2 h3 a h b false true (λh=>by cases h) (λh=>by cases h) (λ_=>hps) Q (λk=>by have:=hQ k;rw[←SG]at this;exact this)
theorem iu (hps:ps≠[]) (ha:0 <Aj a 3) (k:Nat) (hk:Aj (IntKind.i64.wrap (a.tdiv 3)) ps.length=k) (p t:Th) (hp:ps[k]?=some p)
  (q:PX 26 [p.V,.int .i64 (IntKind.i64.wrap (a.tdiv 9)),.int .i64 h,.int .i64 b] [t.V]):
  awp Tryz.prog An (gA 26) (ic [AH .i64 cs,.list (vs.map Val.V),.list ((ps.set k t).map Th.V)])
  ⟨Ab [.v (Th.mk cs vs ps).V,.v (.int .i64 a),.v (.int .i64 h),.v (.int .i64 b)],[]⟩:=by
 obtain⟨P,hP⟩:∃P,ic [AH .i64 cs,.list (vs.map Val.V),.list ((ps.set k t).map Th.V)]=P:=⟨_,rfl⟩;rw[hP];refine Zc h1 h2 h3 a h b hps _ ?_;intro kc;have hlen:0 <ps.length:=List.length_pos_iff.2 hps;obtain⟨hkl,_⟩:=qK.1 hp;have q1:=(MW a 3 (by decide)).fsp;have q2:=(MW (IntKind.i64.wrap (a.tdiv 3)) ps.length (by omega)).fsp;rw[hk]at q2;simp at q1 q2;have hfl:=FO Is ps;have hat:=Lt Is ps k p hp;have hset:=KA Is ps k t hkl;have hsl:=FO Is (ps.set k t);rw[rD]at hsl;obtain⟨R,hR⟩:∃R,(ps.flatMap fT).map D.v++List.replicate kc .any=R:=⟨_,rfl⟩;have hRl:ps.length*3≤R.length:=by rw[←hR];simp[hfl]
 have hR1:(R.drop (k*3)).take 3=(fT p).map D.v:=by
  rw[←hR,List.drop_append_of_le_length (by simp[hfl];omega),sk (by simp[hfl];omega),←ro,←rE,hat]
 have hR2:(AS R (k*3) ((fT t).map D.v)).take (ps.length*3)=((ps.set k t).flatMap fT).map D.v:=by
  rw[←hR,UU _ _ _ _ (by rw[Is];omega),Is,hset,List.take_left' (by simp[hsl])]
 have hR2l:(AS R (k*3) ((fT t).map D.v)).length=R.length:=by simp[AS,Is];omega
 rw[hR];clear hR hat hset hfl hsl;generalize hRR:AS R (k*3) ((fT t).map D.v)=R' at*;obtain⟨tc,tv,tp⟩:=t;obtain⟨pc,pv,pp⟩:=p;simp only[fT,Th.cs,Th.vs,Th.ps,qR,rW]at hR1 hRR;rw[Th.V_eq,Th.V_eq]at q;rw[show HK= .seq (.seq (.reg (oG 26 5) _) (.cond (.t 42 false) (.seq (.reg (oG 26 6) _) (.seq (.regD (oG 26 7) _ _) (.seq (.reg (oG 26 8) _) .ret))) .skip)) HJ from rfl];generalize HJ=C at*;simp only[AE,AG,AL,AA 26 5,ae,z26];simp[hlen];refine⟨_,_,q1 _,?_⟩;simp[ha];simp only[AA 26 6];simp;refine⟨_,_,q2 _,?_⟩;simp;simp only[AW,AA 26 7];have hbR:k*3+3≤R.length:=by omega
 simp[hkl,hR1,hbR];refine⟨_,_,⟨rfl,rfl⟩,_,q,?_⟩;have hbR':k*3+3≤R'.length:=by omega
 simp[hRR];simp only[AA 26 8];simp[Th.cells];simp[AS,AD];rw[←hP];refine⟨trivial,[.v (.list (cs.map (.int .i64))),.v (.list (vs.map Val.V)),.sref 3 ps.length],R',2,3,ps.length,3,(ps.set k (Th.mk tc tv tp)).map Th.V,?_,rfl,rfl,by simp,?_,?_,?_⟩
 ·simp[AX 26,D.one?]
 ·intro x hx;obtain⟨⟨c,v,y⟩,_,rfl⟩:=qX.1 hx;rw[Th.V_eq];rfl
 ·rw[hR2,SG];exact NZ _
 ·simp[AH]
theorem o7 (hps:ps≠[]) (ha:0 <Aj a 3) (k:Nat) (hk:Aj (IntKind.i64.wrap (a.tdiv 3)) ps.length=k) (p t:Th) (hp:ps[k]?=some p)
  (q:PX 26 [p.V,.int .i64 (IntKind.i64.wrap (a.tdiv 9)),.int .i64 h,.int .i64 b] [t.V]):
  PX 26 [(Th.mk cs vs ps).V,.int .i64 a,.int .i64 h,.int .i64 b] [(Th.mk cs vs (ps.set k t)).V]:=by
 rw[Th.V_eq cs vs (ps.set k t)];have f:FX 26 [.v (Th.mk cs vs ps).V,.v (.int .i64 a),.v (.int .i64 h),.v (.int .i64 b)] [] [.v (.agg [AH .i64 cs,.list (vs.map Val.V),.list ((ps.set k t).map Th.V)])] []:=K8 (KN 26) rfl (iu h1 h2 h3 a h b hps ha k hk p t hp q);exact Gf (args:=[_,_,_,_]) (rets:=[_]) f
end
theorem pU {t:Th} (hw:t.wee):∀a h b:Int,i64 a→i64 h→i64 b→T26 t a h b:=by
 induction hw with
 | @mk cs vs ps h0c h1 h2 h3 h4 h5 ih=>
  intro a h b ha hh hb;have hw:(Th.mk cs vs ps).wee:= .mk h0c h1 h2 h3 h4 h5;by_cases hps:ps=[]
  ·exact t26 h1 h2 h3 a h b hw (.inl hps) hh hb
  by_cases h0:0 <Aj a 3
  ·have hlen:0 <ps.length:=List.length_pos_iff.2 hps;have g1:=CU (IntKind.i64.wrap (a.tdiv 3)) ps.length (EA _);have g2:=(Ck (IntKind.i64.wrap (a.tdiv 3)) ps.length (by omega)).2;obtain⟨k,hk⟩:∃k:Nat,Aj (IntKind.i64.wrap (a.tdiv 3)) ps.length=k:=⟨(Aj (IntKind.i64.wrap (a.tdiv 3)) ps.length).toNat,by omega⟩;obtain⟨p,hp⟩:∃p,ps[k]?=some p:=⟨_,qH (by omega)⟩;obtain⟨t2,wd2,sz2,q⟩:=ih p (qJ hp) (IntKind.i64.wrap (a.tdiv 9)) h b (EA _) hh hb;have hs:=Mq ps k p t2 hp;refine T26.of hw (cs2:=cs) (vs2:=vs) (ps2:=ps.set k t2) h0c (by omega) (by omega) (by simp;omega) h4 (λx hx=>?_) (by omega) (o7 h1 h2 h3 a h b hps h0 k hk p t2 hp q);rcases rn hx with hx|rfl
   ·exact(h5 x hx).wid
   ·exact wd2
  ·exact t26 h1 h2 h3 a h b hw (.inr h0) hh hb
def H4 (c:Int×Int):List Int:=AN c.1++AN c.2
def Ex (r:Rgt):List Int:=AY (Bg r)
def DP (x:Ext):List Int:=
 [x.kind,x.file,x.party,x.day].flatMap AN++(AY (BD x.t)++(AN x.rs.length++(x.rs.flatMap Ex++(AN x.cl.length++(x.cl.flatMap H4++(Ah x.fs++AY (Cp x.L x.R x.S)))))))
def Fa (x:Ext):Int:=if F5 x.t=0 then (if x.rs.all Ag then 0 else 1) else F5 x.t
structure Ext.fit (x:Ext):Prop where
 k:i64 x.kind
 f:i64 x.file
 p:i64 x.party
 d:i64 x.day
 t:x.t.full
 rs:∀r∈x.rs,r.ok
 lr:x.rs.length≤2^30
 cl:∀c∈x.cl,i64 c.1∧i64 c.2
 lc:x.cl.length≤2^30
 fs:∀n∈x.fs,i64 n
 lf:x.fs.length≤2^30
 L:∀n∈x.L,u64 n
 R:∀n∈x.R,u64 n
 S:∀n∈x.S,0≤n∧n <256
 lL:x.L.length≤2^30
 lR:x.R.length≤2^30
 lS:x.S.length≤2^30
 all:(DP x).length≤2^40
section
variable (c0 c1 c2 c3 c4 c5 c6 c9 c10 c11 c12:D) (rs:List Rgt) (cl:List (Int×Int))
def Ig:Row:= .cells [c0,c1,c2,c3,c4,c5,c6,.v (.list (rs.map Rgt.V)),.v (.list (cl.map Bh)),c9,c10,c11,c12]
theorem mg (hr:∀r∈rs,r.ok) (hn:rs.length≤2^30) (ys:List Int) (hb:ys.length+(rs.flatMap Ex).length≤2^43) (Q:AExit→St→Prop)
  (hE:rs.all Ag=false→∀e,AF e 2= .own 5 1 []→AF e 3= .v (.int .i64 1)→Q .ret ⟨e,[Ig c0 c1 c2 c3 c4 c5 c6 c9 c10 c11 c12 rs cl]⟩)
  (hQ:rs.all Ag=true→∀e,AF e 1= .ref 0 0→AF e 6= .own 5 1 ((ys++rs.flatMap Ex).map (.int .u8))→Q (.exit 2) ⟨e,[Ig c0 c1 c2 c3 c4 c5 c6 c9 c10 c11 c12 rs cl]⟩):
  awp Tryz.prog An (.loop (lG 42 1)) Q ⟨[(1,.ref 0 0),(6,.own 5 1 (ys.map (.int .u8))),(8,.v (.int .i64 0))],[Ig c0 c1 c2 c3 c4 c5 c6 c9 c10 c11 c12 rs cl]⟩:=by
 refine Ao rs.length (λk=>⟨[(1,.ref 0 0),(6,.own 5 1 ((ys++(rs.take k).flatMap Ex).map (.int .u8))),(8,.v (.int .i64 k))],[Ig c0 c1 c2 c3 c4 c5 c6 c9 c10 c11 c12 rs cl]⟩) (λk=>(rs.take k).all Ag=true) (by simp) (by simp) ?_;intro k hk hI;simp only[Zw,BA 42 1,AA 42 13,Ig];simp;by_cases h1:k <rs.length
 ·obtain⟨x,hx⟩:∃x,rs[k]?=some x:=⟨_,qH h1⟩;have hxm:=qJ hx;have hg:rs[k]=x:=by rw[qH h1]at hx;exact re hx
  have hw:=Bo k;have q:=(oQ x (hr x hxm)).fsp;have hlen:((rs.take (k+1)).flatMap Ex).length≤(rs.flatMap Ex).length:=by
   conv=>rhs;rw[←rJ (k+1) rs]
   rw[rP,qG];omega
  have hft:=Av (f:=Ex) h1;have hxl:(Bg x).length≤(Ex x).length:=by unfold Ex AY;rw[qG];omega
  rw[hft,hg,qG]at hlen;have hroom:AK (ys.length+((rs.take k).flatMap Ex).length+(AY (Bg x)).length) 1=true:=by
   have:(AY (Bg x)).length=(Ex x).length:=rfl;simp[AK,-List.length_flatMap];omega
  rw[if_pos (by omega),AB];have hV:∃v1 v2 v3 v4 v5 v6 v7 v8,x.V= .agg [v1,v2,v3,v4,v5,v6,v7,v8]:=⟨_,_,_,_,_,_,_,_,rfl⟩;have hF:(rs.take (k+1)).all Ag=Ag x:=by
   rw[qc,hx,List.all_append,hI];simp
  have hF2:Ag x=false→rs.all Ag=false:=λh=>by rw[List.all_eq_false];exact⟨x,hxm,by simp[h]⟩
  generalize Ag x=b at*;obtain⟨v1,v2,v3,v4,v5,v6,v7,v8,hV⟩:=hV;rw[hV]at q;simp only[AA 42 15];simp[hx,hV];refine⟨_,_,q _,?_⟩;simp only[AA 42 16];cases b with
  |true=>
   simp[AB];simp only[AA 42 18];simp[AH];refine⟨_,_,(So (Bg x) (by omega) _),?_⟩;simp[hroom,h1,hw,AA 42 14,-List.length_flatMap];refine⟨by simpa using hF,?_⟩;rw[hft,hg];simp[Ex]
  |false=>
   simp[AA 42 17,AD];exact hE (hF2 rfl) _ rfl rfl
 ·have hk2:k=rs.length:=by omega
  subst hk2;rw[if_neg (by omega),AJ];simp only[qm]at hI ⊢;simp only[Ig]at hQ;refine hQ hI _ rfl ?_;simp
theorem mf (hc:∀c∈cl,i64 c.1∧i64 c.2) (hn:cl.length≤2^30) (ys:List Int) (hb:ys.length≤2^43) (Q:AExit→St→Prop)
  (hQ:∀e,AF e 1= .ref 0 0→AF e 6= .own 5 1 ((ys++cl.flatMap H4).map (.int .u8))→Q (.exit 4) ⟨e,[Ig c0 c1 c2 c3 c4 c5 c6 c9 c10 c11 c12 rs cl]⟩):
  awp Tryz.prog An (.loop (lG 42 2)) Q ⟨[(1,.ref 0 0),(6,.own 5 1 (ys.map (.int .u8))),(11,.v (.int .i64 0))],[Ig c0 c1 c2 c3 c4 c5 c6 c9 c10 c11 c12 rs cl]⟩:=by
 have fl:∀l:List (Int×Int),(l.flatMap H4).length≤20*l.length:=by
  intro l;induction l with
  |nil=>simp
  |cons x l ih=>
   have:=AO x.1;have:=AO x.2;simp only[qN,qG,qT,H4];omega
 refine AM cl.length (λk=>⟨[(1,.ref 0 0),(6,.own 5 1 ((ys++(cl.take k).flatMap H4).map (.int .u8))),(11,.v (.int .i64 k))],[Ig c0 c1 c2 c3 c4 c5 c6 c9 c10 c11 c12 rs cl]⟩) (by simp) ?_;intro k hk;simp only[Zw,BA 42 2,AA 42 21,Ig];simp;by_cases h1:k <cl.length
 ·obtain⟨x,hx⟩:∃x,cl[k]?=some x:=⟨_,qH h1⟩;have hg:cl[k]=x:=by rw[qH h1]at hx;exact re hx
  have hw:=Bo k;obtain⟨x1,x2⟩:=hc x (qJ hx);have hf:=fl (cl.take k);have ht:(cl.take k).length≤2^30:=by simp;omega
  have e1:=AO x.1;have e2:=AO x.2;have r1:AK (ys.length+((cl.take k).flatMap H4).length+(AN x.1).length) 1=true:=by simp[AK,-List.length_flatMap];omega
  have r2:AK (ys.length+((cl.take k).flatMap H4).length+(AN x.1).length+(AN x.2).length) 1=true:=by simp[AK,-List.length_flatMap];omega
  rw[if_pos (by omega),AB];simp only[AA 42 23];simp[hx,Bh];refine⟨_,_,(Fl x.1 x1 _),?_⟩;simp[r1,-List.length_flatMap];simp only[AA 42 24];simp[hx,Bh,-List.length_flatMap];refine⟨_,_,(Fl x.2 x2 _),?_⟩;simp[r2,h1,hw,AA 42 22,-List.length_flatMap,←Nat.add_assoc];rw[Av h1,hg];simp[H4]
 ·have hk2:k=cl.length:=by omega
  subst hk2;rw[if_neg (by omega),AJ];simp only[Ig]at hQ;refine hQ _ rfl ?_;simp
end
section
structure Ext.nice (m n0:Nat) (x:Ext):Prop where
 k:i64 x.kind
 f:i64 x.file
 p:i64 x.party
 d:i64 x.day
 t:x.t.wid
 ts:x.t.size≤300
 rs:∀r∈x.rs,r.tiny m
 lr:x.rs.length≤4
 cl:∀c∈x.cl,i64 c.1∧i64 c.2
 lc:x.cl.length≤n0
 fs:∀n∈x.fs,i64 n
 lf:x.fs.length≤n0
 L:∀n∈x.L,u64 n
 R:∀n∈x.R,u64 n
 S:∀n∈x.S,0≤n∧n <256
 lL:x.L.length≤n0
 lR:x.R.length≤n0
 lS:x.S.length≤n0
def OJ:AC:=la 36
def Fg:AC:=OJ.R.R.R.R.R.R.R
def Gz:AC:=Fg.L.R.L
theorem bW:(gA 36)= .seq (.reg (oG 36 0) [1,2,3,4,8]) (.seq (.reg (oG 36 1) [1,2,3,4,8]) (.seq (.reg (oG 36 2) [1,2,3,4,8]) (.seq (.reg (oG 36 3) [1,2,3,4,8]) (.seq (.reg (oG 36 4) [1,2,3,4,8]) (.seq (.reg (oG 36 5) [1,2,3,4,8]) (.seq (.reg (oG 36 6) [1,2,3,4,8]) Fg)))))):=(At 36 :)
theorem Xi:Fg= .seq (.seq (.reg (oG 36 7) [1,2,3,4,8,48]) (.block 0 Gz)) (.seq (.reg (oG 36 39) [8]) .ret):=rfl
def ZI:Row:= .cells [.v (.int .i64 0),.v (.int .i64 0),.v (.int .i64 0),.v (.int .i64 0),.own 3 1 [],.own 171 3 [],.own 58 3 [],.own 32 8 [],.own 186 2 [],.own 3 1 [],.own 47 1 [],.own 47 1 [],.own 5 1 []]
def D7 (b:Bool) (e s:Nat) (l:List V):D:=if b then .own e s l else .v (.list l)
def DX (x:Ext) (RD CD FD LD QD SD:D):Row:= .cells [.v (.int .i64 x.kind),.v (.int .i64 x.file),.v (.int .i64 x.party),.v (.int .i64 x.day),.v (AH .i64 x.t.cs),.v (.list (x.t.vs.map Val.V)),.v (.list (x.t.ps.map Th.V)),RD,CD,FD,LD,QD,SD]
def Mw (x:Ext):D:= .own 32 8 (x.rs.map Rgt.V)
def Mf (x:Ext):D:= .own 186 2 (x.cl.map Bh)
def Mc (x:Ext):D:= .own 3 1 (x.fs.map (.int .i64))
def Ln (x:Ext):D:= .own 47 1 (x.L.map (.int .u64))
def LT (x:Ext):D:= .own 47 1 (x.R.map (.int .u64))
def MM (x:Ext):D:= .own 5 1 (x.S.map (.int .u8))
def gJ (how at_ by_:Int):CH:=[(1,.v (.int .i64 how)),(2,.v (.int .i64 at_)),(3,.v (.int .i64 by_)),(4,.ref 0 0),(8,.ref 1 0)]
theorem U4 (l:List Rgt):BG 8 (l.map Rgt.V)=true:=by cases l<;>rfl
theorem U5 (l:List (Int×Int)):BG 2 (l.map Bh)=true:=by cases l<;>rfl
theorem Gq (k:IntKind) (l:List Int):BG 1 (l.map (V.int k))=true:=by cases l<;>rfl
theorem Om (l:List Rgt):(l.map Rgt.V).flatMap V.cells=l.flatMap Rgt.cs:=by rw[tU];rfl
theorem Nx (k:IntKind) (l:List Int):(l.map (V.int k)).flatMap V.cells=l.map (V.int k):=by
 induction l with
 |nil=>rfl
 |cons x l ih=>rw[qR,qN,ih];rfl
variable {m:Nat}
theorem Rgt.tiny.up {r:Rgt} (h:r.tiny m):r.tiny (m+1):=
 ⟨h.file,h.state,h.force,h.claims,h.dates,h.bad,h.owners,h.lics,Nat.le_succ_of_le h.lc,Nat.le_succ_of_le h.ld,Nat.le_succ_of_le h.lb,Nat.le_succ_of_le h.lo,Nat.le_succ_of_le h.ll⟩
theorem Ext.nice.up {m k:Nat} {x:Ext} (h:x.nice m k):x.nice (m+1) (k+1):=
 {h with rs:=λr hr=>(h.rs r hr).up,lc:=Nat.le_succ_of_le h.lc,lf:=Nat.le_succ_of_le h.lf,lL:=Nat.le_succ_of_le h.lL,lR:=Nat.le_succ_of_le h.lR,lS:=Nat.le_succ_of_le h.lS}
section
variable (x:Ext) (how at_ by_:Int) (hx:x.nice 3 1048576)
include hx
theorem UW (br bs:Bool) (hb:br=true→bs=false) (hr:br=true→x.rs≠[]) (hs:bs=true→x.S≠[]) (Q:AExit→St→Prop)
  (hQ:∀k,awp Tryz.prog An Fg Q ⟨gJ how at_ by_,[DX x (if br then .sref 2 x.rs.length else Mw x) (Mf x) (Mc x) (Ln x) (LT x) (if bs then .sref 2 x.S.length else MM x),ZI]++
   (if br then [.cells ((x.rs.flatMap Rgt.cs).map .v++List.replicate k .any)] else [])++(if bs then [.cells ((x.S.map (V.int .u8)).map .v++List.replicate k .any)] else [])⟩):
  awp Tryz.prog An (gA 36) Q ⟨Ab [.v x.V,.v (.int .i64 how),.v (.int .i64 at_),.v (.int .i64 by_)],[]⟩:=by
 have l1:=hx.lr;have l2:=hx.lc;have l3:=hx.lf;have l4:=hx.lL;have l5:=hx.lR;have l6:=hx.lS;have r1:AK x.rs.length 144=true:=by simp[AK];omega
 have r2:AK x.cl.length 16=true:=by simp[AK];omega
 have r3:AK x.fs.length 8=true:=by simp[AK];omega
 have r4:AK x.S.length 1=true:=by simp[AK];omega
 have r5:AK x.L.length 8=true:=by simp[AK];omega
 have r6:AK x.R.length 8=true:=by simp[AK];omega
 have g1:=U4 x.rs;have g2:=U5 x.cl;have g3:=Gq .i64 x.fs;have g4:=Gq .u8 x.S;have g5:=Gq .u64 x.L;have g6:=Gq .u64 x.R;have f1:=Om x.rs;have f2:=Nx .u8 x.S;simp only[←f1]at hQ;rw[←f2]at hQ;clear f1 f2;obtain⟨kind,file,party,day,⟨tc,tv,tp⟩,rs,cl,fs,L,R,S⟩:=x;simp only[DX,Mw,Mf,Mc,Ln,LT,MM,ZI,gJ,Ext.V,Ext.cs,Th.cs,Th.vs,Th.ps,AH]at*;rw[bW];generalize Fg=C at*;simp only[AE,AG,AA 36 0,Ab];simp;simp only[AA 36 1];cases br with
 |false=>
  simp[r1,g1,AS]
  left
  simp only[AA 36 2];simp[r2,g2];simp only[AA 36 3];simp[r3,g3];simp only[AA 36 4];cases bs with
  |false=>
   simp[r4,g4,AS]
   left
   simp only[AA 36 5];simp[r5,g5];simp only[AA 36 6];simp[r6,g6];simpa using hQ 0
  |true=>
   have hn:S≠[]:=hs rfl;simp[r4,g4,AS,hn]
   right
   intro k;simp only[AA 36 5];simp[r5,g5];simp only[AA 36 6];simp[r6,g6];simpa using hQ k
 |true=>
  have hn:rs≠[]:=hr rfl;have hbs:=hb rfl;subst hbs;simp[r1,g1,AS,hn]
  right
  intro k;simp only[AA 36 2];simp[r2,g2];simp only[AA 36 3];simp[r3,g3];simp only[AA 36 4];simp[r4,g4,AS]
  left
  simp only[AA 36 5];simp[r5,g5];simp only[AA 36 6];simp[r6,g6];simpa using hQ k
theorem ol {y:Ext} (b1 b2 b3:Bool)
  (hw:awp Tryz.prog An Gz (λe s=>(e= .normal∨e= .exit 0)∧AF s.e 4= .ref 0 0∧AF s.e 8= .ref 1 0∧∃J,s.h=DX y (D7 b1 32 8 (y.rs.map Rgt.V)) (D7 b2 186 2 (y.cl.map Bh)) (D7 b3 3 1 (y.fs.map (.int .i64))) (Ln y) (LT y) (MM y)::ZI::J)
   ⟨[(1,.v (.int .i64 how)),(2,.v (.int .i64 at_)),(3,.v (.int .i64 by_)),(4,.ref 0 0),(8,.ref 1 0),(48,.v (.int .i64 (Aj how 12)))],[DX x (Mw x) (Mf x) (Mc x) (Ln x) (LT x) (MM x),ZI]⟩):
  PX 36 [x.V,.int .i64 how,.int .i64 at_,.int .i64 by_] [y.V]:=by
 refine BU 36 ?_;refine UW x how at_ by_ hx false false (λh=>by cases h) (λh=>by cases h) (λh=>by cases h) _ ?_;intro _;have q2:=(MW how 12 (by decide)).fsp;simp at q2;rw[Xi];generalize Gz=W at*;simp only[AE,AG,AU,AA 36 7,gJ];simp;refine⟨_,_,q2 _,?_⟩;refine AZ _ ?_ (by simpa using hw);rintro e ⟨se,sh⟩ ⟨he,g4,g8,J,hh⟩;simp only at g4 g8 hh;subst hh;obtain⟨kind,file,party,day,⟨tc,tv,tp⟩,rs,cl,fs,L,R,S⟩:=y;rcases he with rfl|rfl<;>cases b1<;>cases b2<;>cases b3<;>simp[AA 36 39,ZI,DX,D7,Ln,LT,MM,g4,g8,AS,AD,AX 36,Bw,D.vs?,D.v?,Ext.V,Ext.cs,Th.cs,Th.vs,Th.ps,AH]
theorem jT (hw:x.t.wee) (hsz:x.t.size≤100) (hh:i64 how) (ha:i64 at_) (hb:i64 by_) (hnr:¬(Aj how 12=5∧x.rs≠[])) (hns:¬(Aj how 12=10∧x.S≠[])):
  ∃y:Ext,y.nice 4 1048577∧PX 36 [x.V,.int .i64 how,.int .i64 at_,.int .i64 by_] [y.V]:=by
 have up:=hx.up;have hv1:=CU how 12 hh;have hv2:=(Ck how 12 (by decide)).2;have w:=fun {y:Ext} b1 b2 b3=>ol x how at_ by_ hx (y:=y) b1 b2 b3;obtain⟨v,hv⟩:∃v,Aj how 12=v:=⟨_,rfl⟩;rw[hv]at w hv1 hv2 hnr hns;have l2:=hx.lc;have l3:=hx.lf;have l5:=hx.lR;have r2:AK (x.cl.length+1) 16=true:=by simp[AK];omega
 have r3:AK (x.fs.length+1) 8=true:=by simp[AK];omega
 have r6:AK (x.R.length+1) 8=true:=by simp[AK];omega
 have u1:List.take x.rs.length (x.rs.map Rgt.V)=x.rs.map Rgt.V:=qw (by simp);have u2:List.take x.cl.length (x.cl.map Bh)=x.cl.map Bh:=qw (by simp);have u3:List.take x.fs.length (x.fs.map (V.int .i64))=x.fs.map (V.int .i64):=qw (by simp);have g1:=U4 x.rs;have g2:=U5 x.cl;have g3:=Gq .i64 x.fs;have hcase:v=0∨v=1∨v=2∨v=3∨v=4∨v=5∨v=6∨v=7∨v=8∨v=9∨v=10∨v=11:=by omega
 rcases hcase with rfl|rfl|rfl|rfl|rfl|rfl|rfl|rfl|rfl|rfl|rfl|rfl
 ·refine⟨{x with kind:=by_},{up with k:=hb},w true true true ?_⟩;simp only[Gz,Fg,OJ,la,AC.L,AC.R,AE,AG,AL,AA 36 9,AA 36 10];simp[DX,Mw,Mf,Mc,Ln,LT,MM,D7,AS]
 ·refine⟨{x with file:=by_},{up with f:=hb},w true true true ?_⟩;simp only[Gz,Fg,OJ,la,AC.L,AC.R,AE,AG,AL,AA 36 9,AA 36 11,AA 36 12];simp[DX,Mw,Mf,Mc,Ln,LT,MM,D7,AS]
 ·refine⟨{x with party:=by_},{up with p:=hb},w true true true ?_⟩;simp only[Gz,Fg,OJ,la,AC.L,AC.R,AE,AG,AL,AA 36 9,AA 36 11,AA 36 13,AA 36 14];simp[DX,Mw,Mf,Mc,Ln,LT,MM,D7,AS]
 ·refine⟨{x with day:=by_},{up with d:=hb},w true true true ?_⟩;simp only[Gz,Fg,OJ,la,AC.L,AC.R,AE,AG,AL,AA 36 9,AA 36 11,AA 36 13,AA 36 15,AA 36 16];simp[DX,Mw,Mf,Mc,Ln,LT,MM,D7,AS]
 ·obtain⟨t2,wd2,sz2,q⟩:=pU hw at_ (IntKind.i64.wrap (how.tdiv 12)) by_ ha (EA _) hb;refine⟨{x with t:=t2},{up with t:=wd2,ts:=by simp only;omega},w true true true ?_⟩
  replace q:=q.fsp
  obtain⟨kind,file,party,day,⟨tc,tv,tp⟩,rs,cl,fs,L,R,S⟩:=x;obtain⟨uc,uv,up⟩:=t2;simp only[Th.V_eq]at q;simp at q;simp only[Gz,Fg,OJ,la,AC.L,AC.R,AE,AG,AL,AA 36 9,AA 36 11,AA 36 13,AA 36 15,AA 36 17,AA 36 18];simp[DX,Mw,Mf,Mc,Ln,LT,MM,D7,AS,Th.cs,Th.vs,Th.ps,D.vs?,D.v?];refine⟨_,_,q _,?_⟩;simp
 ·have hrs:x.rs=[]:=by
   by_cases h:x.rs=[]
   ·exact h
   ·exact absurd ⟨rfl,h⟩ hnr
  refine⟨x,up,w true true true ?_⟩;simp only[Gz,Fg,OJ,la,AC.L,AC.R,AE,AG,AL,AA 36 9,AA 36 11,AA 36 13,AA 36 15,AA 36 17,AA 36 19,AA 36 20];simp[DX,Mw,Mf,Mc,Ln,LT,MM,D7,hrs,AB]
 ·by_cases hrs:x.rs=[]
  ·refine⟨x,up,w true true true ?_⟩;simp only[Gz,Fg,OJ,la,AC.L,AC.R,AE,AG,AL,AA 36 9,AA 36 11,AA 36 13,AA 36 15,AA 36 17,AA 36 19,AA 36 23,AA 36 24];simp[DX,Mw,Mf,Mc,Ln,LT,MM,D7,hrs,AB]
  ·have hlen:0 <x.rs.length:=List.length_pos_iff.2 hrs;have hlen1:1≤x.rs.length:=hlen;refine⟨{x with rs:=x.rs.drop 1},{up with rs:=λr hr=>up.rs r (rh hr),lr:=by have:=up.lr;simp only[List.length_drop];omega},w false true true ?_⟩;simp only[Gz,Fg,OJ,la,AC.L,AC.R,AE,AG,AL,AA 36 9,AA 36 11,AA 36 13,AA 36 15,AA 36 17,AA 36 19,AA 36 23,AA 36 24];simp[DX,Mw,Mf,Mc,Ln,LT,MM,D7,hlen];simp only[AA 36 25];simp[AS,hlen1,u1,g1]
 ·refine⟨{x with cl:=x.cl++[(at_,by_)]},{up with cl:=λc hc=>?_,lc:=by simp;omega},w true true true ?_⟩
  ·rcases qW.1 hc with hc|hc
   ·exact up.cl c hc
   ·rw[qO.1 hc];exact⟨ha,hb⟩
  ·simp only[Gz,Fg,OJ,la,AC.L,AC.R,AE,AG,AL,AA 36 9,AA 36 11,AA 36 13,AA 36 15,AA 36 17,AA 36 19,AA 36 23,AA 36 26,AA 36 27];simp[DX,Mw,Mf,Mc,Ln,LT,MM,D7,AS,r2,Bh]
 ·refine⟨{x with fs:=x.fs++[by_]},{up with fs:=λc hc=>?_,lf:=by simp;omega},w true true true ?_⟩
  ·rcases qW.1 hc with hc|hc
   ·exact up.fs c hc
   ·rw[qO.1 hc];exact hb
  ·simp only[Gz,Fg,OJ,la,AC.L,AC.R,AE,AG,AL,AA 36 9,AA 36 11,AA 36 13,AA 36 15,AA 36 17,AA 36 19,AA 36 23,AA 36 26,AA 36 28,AA 36 29];simp[DX,Mw,Mf,Mc,Ln,LT,MM,D7,AS,r3]
 ·have nc:∀l:List (Int×Int),(∀c∈l,c∈x.cl)→l.length≤x.cl.length→∀f:List Int,(∀c∈f,c∈x.fs)→f.length≤x.fs.length→({x with cl:=l,fs:=f}:Ext).nice 4 1048577:=λl h1 h2 f h3 h4=>
   {up with cl:=λc hc=>up.cl c (h1 c hc),lc:=by simp only;omega,fs:=λc hc=>up.fs c (h3 c hc),lf:=by simp only;omega}
  by_cases hc:x.cl=[]
  ·by_cases hf:x.fs=[]
   ·refine⟨x,up,w true true true ?_⟩;simp only[Gz,Fg,OJ,la,AC.L,AC.R,AE,AG,AL,AA 36 9,AA 36 11,AA 36 13,AA 36 15,AA 36 17,AA 36 19,AA 36 23,AA 36 26,AA 36 28,AA 36 30,AA 36 31];simp[DX,Mw,Mf,Mc,Ln,LT,MM,D7,hc,hf,AB];simp only[AA 36 33];simp
   ·have hfl:0 <x.fs.length:=List.length_pos_iff.2 hf;have hfl1:1≤x.fs.length:=hfl;refine⟨{x with cl:=x.cl,fs:=x.fs.drop 1},nc _ (λ_ h=>h) (qM _) _ (λ_ h=>rh h) (by simp),w true true false ?_⟩;simp only[Gz,Fg,OJ,la,AC.L,AC.R,AE,AG,AL,AA 36 9,AA 36 11,AA 36 13,AA 36 15,AA 36 17,AA 36 19,AA 36 23,AA 36 26,AA 36 28,AA 36 30,AA 36 31];simp[DX,Mw,Mf,Mc,Ln,LT,MM,D7,hc,AB];simp only[AA 36 33];simp[hfl];simp only[AA 36 34];simp[AS,hfl1,u3,g3]
  ·have hcl:0 <x.cl.length:=List.length_pos_iff.2 hc;have hcl1:1≤x.cl.length:=hcl;by_cases hf:x.fs=[]
   ·refine⟨{x with cl:=x.cl.drop 1,fs:=x.fs},nc _ (λ_ h=>rh h) (by simp) _ (λ_ h=>h) (qM _),w true false true ?_⟩;simp only[Gz,Fg,OJ,la,AC.L,AC.R,AE,AG,AL,AA 36 9,AA 36 11,AA 36 13,AA 36 15,AA 36 17,AA 36 19,AA 36 23,AA 36 26,AA 36 28,AA 36 30,AA 36 31];simp[DX,Mw,Mf,Mc,Ln,LT,MM,D7,hcl,hf];simp only[AA 36 32];simp[AS,hcl1,u2,g2];simp only[AA 36 33];simp[AB]
   ·have hfl:0 <x.fs.length:=List.length_pos_iff.2 hf;have hfl1:1≤x.fs.length:=hfl;refine⟨{x with cl:=x.cl.drop 1,fs:=x.fs.drop 1},nc _ (λ_ h=>rh h) (by simp) _ (λ_ h=>rh h) (by simp),w true false false ?_⟩;simp only[Gz,Fg,OJ,la,AC.L,AC.R,AE,AG,AL,AA 36 9,AA 36 11,AA 36 13,AA 36 15,AA 36 17,AA 36 19,AA 36 23,AA 36 26,AA 36 28,AA 36 30,AA 36 31];simp[DX,Mw,Mf,Mc,Ln,LT,MM,D7,hcl];simp only[AA 36 32];simp[AS,hcl1,u2,g2];simp only[AA 36 33];simp[hfl];simp only[AA 36 34];simp[AS,hfl1,u3,g3]
 ·have hS:x.S=[]:=by
   by_cases h:x.S=[]
   ·exact h
   ·exact absurd ⟨rfl,h⟩ hns
  refine⟨x,up,w true true true ?_⟩;simp only[Gz,Fg,OJ,la,AC.L,AC.R,AE,AG,AL,AA 36 9,AA 36 11,AA 36 13,AA 36 15,AA 36 17,AA 36 19,AA 36 23,AA 36 26,AA 36 28,AA 36 30,AA 36 35,AA 36 36];simp[DX,Mw,Mf,Mc,Ln,LT,MM,D7,hS,AB]
 ·refine⟨{x with R:=x.R++[IntKind.u64.wrap by_]},{up with R:=λc hc=>?_,lR:=by simp;omega},w true true true ?_⟩
  ·rcases qW.1 hc with hc|hc
   ·exact up.R c hc
   ·rw[qO.1 hc];exact D8 _
  ·simp only[Gz,Fg,OJ,la,AC.L,AC.R,AE,AG,AL,AA 36 9,AA 36 11,AA 36 13,AA 36 15,AA 36 17,AA 36 19,AA 36 23,AA 36 26,AA 36 28,AA 36 30,AA 36 35,AA 36 8];simp[DX,Mw,Mf,Mc,Ln,LT,MM,D7,AS,r6]
end
end
theorem To (n:Int):1≤(CY n).length:=by
 unfold CY;rw[Ci];split<;>simp
theorem UA:∀t:Th,t.size≤(BD t).length:=by
 refine Th.ind λcs vs ps ih=>?_;rw[Th.size,BD,D6];have h:Th.sizes ps≤(ps.flatMap BD).length:=by
  clear cs vs;induction ps with
  |nil=>simp[Th.sizes]
  |cons p l ihl=>
   have:=ih p (by simp);have:=ihl λk hk=>ih k (by simp[hk]);rw[Th.sizes,qN,qG];omega
 have hu:=To cs.length;simp only[qG,Ah];omega
theorem jS (x:Ext) (hx:x.fit):PX 42 [x.V] [AH .u8 (if Fa x=0 then DP x else []),.int .i64 (Fa x)]:=by
 refine BU 42 ?_;have hall:=hx.all;have hsz:=UA x.t;unfold DP at hall;have h4:([x.kind,x.file,x.party,x.day].flatMap AN).length≤40:=Au _;simp only[qG]at hall;have hraw:(BD x.t).length≤(AY (BD x.t)).length:=by unfold AY;rw[qG];omega
 have hpf:(Cp x.L x.R x.S).length≤(AY (Cp x.L x.R x.S)).length:=by unfold AY;rw[qG];omega
 have q1:=(Zo x.t hx.t.ok (by omega)).fsp;have q2:=(mL x.t hx.t (by omega)).fsp;have q3:=(mK x.L x.R x.S hx.L hx.R (by have:=hx.lL;omega) (by have:=hx.lR;omega) (by have:=hx.lS;omega)).fsp;have kr:i64 (x.rs.length:Int):=by have:=hx.lr;unfold i64;omega
 have kc:i64 (x.cl.length:Int):=by have:=hx.lc;unfold i64;omega
 obtain⟨hkd,hf,hp,hd,ht,hrs,hlr,hcl,hlc,hfs,hlf,hL,hR,hS,hlL,hlR,hlS,-⟩:=hx;unfold Fa DP;generalize BD x.t=TB at*;generalize Cp x.L x.R x.S=PB at*;generalize F5 x.t=E at*;obtain⟨kind,file,party,day,⟨cs,vs,ps⟩,rs,cl,fs,L,R,S⟩:=x;simp only[Ext.V,Ext.cs,Th.V_eq,Th.cs,Th.vs,Th.ps,AH]at*;obtain⟨G,hG⟩:∃G,[kind,file,party,day].flatMap AN++(AY TB++(AN rs.length++(rs.flatMap Ex++(AN cl.length++(cl.flatMap H4++(Ah fs++AY PB))))))=G:=⟨_,rfl⟩;obtain⟨A,hA⟩:∃A,rs.all Ag=A:=⟨_,rfl⟩;rw[hG,hA];simp only[Zw,At 42,AA 42 0,AA 42 1,AV];simp at q1 q2 q3 ⊢;refine⟨_,_,q1 _,?_⟩;simp only[AA 42 2];by_cases hE:E=0
 ·subst hE;simp[AB];simp only[AA 42 4,AA 42 5,AA 42 6];simp;obtain⟨RW,hRW⟩:∃RW,Ig (.v (.int .i64 kind)) (.v (.int .i64 file)) (.v (.int .i64 party)) (.v (.int .i64 day)) (.v (AH .i64 cs)) (.v (.list (vs.map Val.V))) (.v (.list (ps.map Th.V))) (.v (AH .i64 fs)) (.v (AH .u64 L)) (.v (AH .u64 R)) (.v (AH .u8 S)) rs cl=RW:=⟨_,rfl⟩;have hRW2:=hRW;simp only[Ig,AH]at hRW2;rw[hRW2];refine AM 4 (λk=>⟨[(1,.ref 0 0),(5,.own 3 1 [.int .i64 kind,.int .i64 file,.int .i64 party,.int .i64 day]),(6,.own 5 1 ((([kind,file,party,day].take k).flatMap AN).map (.int .u8))),(7,.v (.int .i64 k))],[RW]⟩) (by simp) ?_;intro k hk;have step:∀(n m:Int) (pre:List Int),pre.length≤100→i64 n→AK (pre.length+(AN n).length) 1=true:=λn m pre h _=>by have:=AO n;simp[AK];omega
  simp only[Zw,BA 42 0,AA 42 7];have hk5:k=0∨k=1∨k=2∨k=3∨k=4:=by omega
  have e1:=AO kind;have e2:=AO file;have e3:=AO party;have e4:=AO day;rcases hk5 with rfl|rfl|rfl|rfl|rfl
  ·have hroom:AK (AN kind).length 1=true:=by simp[AK];omega
   simp[AB];simp only[AA 42 9];simp;refine⟨_,_,(Fl kind hkd _),?_⟩;simp[hroom,AA 42 8];rfl
  ·have hroom:AK ((AN kind).length+(AN file).length) 1=true:=by simp[AK];omega
   simp[AB];simp only[AA 42 9];simp;refine⟨_,_,(Fl file hf _),?_⟩;simp[hroom,AA 42 8];rfl
  ·have hroom:AK ((AN kind).length+(AN file).length+(AN party).length) 1=true:=by simp[AK];omega
   simp[AB];simp only[AA 42 9];simp;refine⟨_,_,(Fl party hp _),?_⟩;simp[hroom,AA 42 8];rfl
  ·have hroom:AK ((AN kind).length+(AN file).length+(AN party).length+(AN day).length) 1=true:=by simp[AK];omega
   simp[AB];simp only[AA 42 9];simp;refine⟨_,_,(Fl day hd _),?_⟩;simp[hroom,AA 42 8,←Nat.add_assoc];rfl
  ·have m1:AK ((AN kind).length+((AN file).length+((AN party).length+(AN day).length))+(AY TB).length) 1=true:=by simp[AK];omega
   have m2:AK ((AN kind).length+((AN file).length+((AN party).length+((AN day).length+(AY TB).length)))+(AN rs.length).length) 1=true:=by simp[AK];omega
   simp[AJ];rw[←hRW2];simp only[AA 42 10];simp;refine⟨_,_,q2 _,?_⟩;simp;refine⟨_,_,(So TB (by omega) _),?_⟩;simp[m1];simp only[AA 42 11];simp;refine⟨_,_,(Fl rs.length kr _),?_⟩;simp[m2];simp only[AA 42 12];simp;have q5:=mg (.v (.int .i64 kind)) (.v (.int .i64 file)) (.v (.int .i64 party)) (.v (.int .i64 day)) (.v (AH .i64 cs)) (.v (.list (vs.map Val.V))) (.v (.list (ps.map Th.V))) (.v (AH .i64 fs)) (.v (AH .u64 L)) (.v (AH .u64 R)) (.v (AH .u8 S)) rs cl hrs hlr
    (AN kind++(AN file++(AN party++(AN day++(AY TB++AN rs.length))))) (by simp only[qG];omega)
   have q6:=mf (.v (.int .i64 kind)) (.v (.int .i64 file)) (.v (.int .i64 party)) (.v (.int .i64 day)) (.v (AH .i64 cs)) (.v (.list (vs.map Val.V))) (.v (.list (ps.map Th.V))) (.v (AH .i64 fs)) (.v (AH .u64 L)) (.v (AH .u64 R)) (.v (AH .u8 S)) rs cl hcl hlc
    (AN kind++(AN file++(AN party++(AN day++(AY TB++(AN rs.length++(rs.flatMap Ex++AN cl.length))))))) (by simp only[qG];omega)
   rw[hA,hRW]at q5;rw[hRW]at q6;rw[hRW2];simp only[qh]at q5 q6;refine q5 _ ?_ ?_
   ·rintro rfl e f2 f3;simp[f2,f3,AX 42]
   ·rintro rfl e f1 f6;have m3:AK ((AN kind).length+((AN file).length+((AN party).length+((AN day).length+((AY TB).length+((AN rs.length).length+(rs.flatMap Ex).length)))))+(AN cl.length).length) 1=true:=by simp[AK,-List.length_flatMap];omega
    simp;rw[←hRW2];simp only[AA 42 19];simp[f1,f6];refine⟨_,_,(Fl cl.length kc _),?_⟩;simp[m3,-List.length_flatMap];simp only[AA 42 20];simp[f1,-List.length_flatMap];rw[hRW2];refine q6 _ ?_;intro e f1 f6;simp;rw[←hRW2];simp only[AA 42 25];simp[f1,f6,-List.length_flatMap];have m4:AK ((AN kind).length+((AN file).length+((AN party).length+((AN day).length+((AY TB).length+((AN rs.length).length+((rs.flatMap Ex).length+((AN cl.length).length+(cl.flatMap H4).length)))))))+(Ah fs).length) 1=true:=by simp[AK,-List.length_flatMap];omega
    have m5:AK ((AN kind).length+((AN file).length+((AN party).length+((AN day).length+((AY TB).length+((AN rs.length).length+((rs.flatMap Ex).length+((AN cl.length).length+((cl.flatMap H4).length+(Ah fs).length))))))))+(AY PB).length) 1=true:=by simp[AK,-List.length_flatMap];omega
    refine⟨_,_,(Ws fs hfs (by omega) _),?_⟩;simp[m4,f1,-List.length_flatMap];simp only[AA 42 26];simp[-List.length_flatMap];refine⟨_,_,q3 _,?_⟩;simp[-List.length_flatMap];refine⟨_,_,(So PB (by omega) _),?_⟩;simp[m5,AD,AX 42,←hG,-List.length_flatMap]
 ·simp[hE,AD,AA 42 3,AX 42]
theorem pQ (x:Ext) (h1:x.rs.length≤2^30) (h2:x.cl.length≤2^30) (hr:∀r∈x.rs,r.ok):PX 37 [x.V] [x.V]:=by
 refine BU 37 ?_;have q0:=pY x.rs hr h1;obtain⟨kind,file,party,day,⟨cs,vs,ps⟩,rs,cl,fs,L,R,S⟩:=x;simp only[Ext.V,Ext.cs,Th.cs,Th.vs,Th.ps,AH]at*;simp only[At 37,AE,AG,AU,AA 37 0,AV];simp;simp only[AW,AA 37 1];simp;refine⟨_,_,⟨rfl,rfl⟩,_,q0,?_⟩;simp[AS];simp only[AA 37 2];simp;have hs:∀(R0 R1:Row) (d0 d1 d2 d3 d4 d5 d6 d7 d9 d10 d11 d12:D) (Q:AExit→St→Prop),R0= .cells [.v (.int .i64 kind),.v (.int .i64 file),.v (.int .i64 party),.v (.int .i64 day),.v (AH .i64 cs),.v (.list (vs.map Val.V)),.v (.list (ps.map Th.V)),.v (.list (rs.map Rgt.V)),.v (.list (cl.map Bh)),.v (AH .i64 fs),.v (AH .u64 L),.v (AH .u64 R),.v (AH .u8 S)]→
   (∀e,AF e 2= .ref 1 0→AF e 3= .ref 2 0→Q (.exit 0) ⟨e,[R0,R1,.cells [d0,d1,d2,d3,d4,d5,d6,d7,.own 76 2 (cl.map Bh),d9,d10,d11,d12]]⟩)→
   awp Tryz.prog An (.loop (lG 37 0)) Q ⟨[(1,.ref 0 0),(2,.ref 1 0),(3,.ref 2 0),(4,.v (.int .i64 0))],[R0,R1,.cells [d0,d1,d2,d3,d4,d5,d6,d7,.own 76 2 [],d9,d10,d11,d12]]⟩:=by
  rintro R0 R1 d0 d1 d2 d3 d4 d5 d6 d7 d9 d10 d11 d12 Q rfl hQ;refine AM cl.length (λk=>⟨[(1,.ref 0 0),(2,.ref 1 0),(3,.ref 2 0),(4,.v (.int .i64 k))],[_,R1,.cells [d0,d1,d2,d3,d4,d5,d6,d7,.own 76 2 ((cl.take k).map Bh),d9,d10,d11,d12]]⟩) (by simp;rfl) ?_;intro k hk;simp only[Zw,BA 37 0,AA 37 3];simp;by_cases hlt:k <cl.length
  ·obtain⟨r,hxk⟩:∃r,cl[k]?=some r:=⟨_,qH hlt⟩;have hw:=Bo k;have hroom:AK (k+1) 16=true:=by simp[AK];omega
   have hm:min k cl.length=k:=by omega
   have e:=Cw hxk Bh;rw[if_pos (by omega),AB];simp only[AW,AA 37 5];simp[hxk,Bh,AH,AS,hm,hroom];simp[AA 37 4,hw,hlt,e,Bh]
  ·have:k=cl.length:=by omega
   subst this;rw[if_neg (by omega),AJ];have ht:List.take cl.length (cl.map Bh)=cl.map Bh:=qw (by simp);simp[ht];exact hQ [(1,.ref 0 0),(2,.ref 1 0),(3,.ref 2 0),(4,.v (.int .i64 cl.length)),(35,.v (.bool false))] rfl rfl
 refine hs _ _ _ _ _ _ _ _ _ _ _ _ _ _ _ rfl ?_;intro e f2 f3;simp only[AA 37 6];simp[f2,f3,AS,AD,AX 37,D.vs?,D.v?]
section
def Cy (s:RS):Val:=⟨Cb s 0,Cb s 1,Cb s 2⟩
def Me (rd:RS→Th×RS×Bool):Nat→RS→List Th×RS×Bool
 |0,s=>([],s,true)
 |n+1,s=>if (rd s).2.2=true then ((rd s).1::(Me rd n (rd s).2.1).1,(Me rd n (rd s).2.1).2) else ([],(rd s).2.1,false)
def dT:Nat→RS→Th×RS×Bool
 |0,s=>(.mk (Am s).1 [] [],(Ad (Am s).2).2,false)
 |k+1,s=>
  let c:=Am s
  let n:=Ad c.2
  if n.1 <0∨32 <n.1 then (.mk c.1 [] [],n.2,false) else
   let vs:=BX 3 Cy n.1.toNat n.2
   let m:=Ad vs.2
   if m.1 <0∨96 <m.1 then (.mk c.1 vs.1 [],m.2,false) else
    let ps:=Me (dT k) m.1.toNat m.2
    (.mk c.1 vs.1 ps.1,ps.2)
def WI (b:List Int):Option Th:=
 let x:=dT 8 (b,0)
 if x.2.2=false∨Fk x.2.1≠0∨F5 x.1≠0 then none else some x.1
def IW:Nat→RS→List Int×RS
 |0,s=>([],s)
 |n+1,s=>((As s).1::(IW n (As s).2).1,(IW n (As s).2).2)
def Tk (b:List Int):Option (List Int×List Int×List Int):=
 let S:=Bl (b,0)
 let n:=Ad S.2
 if n.1 <0∨(b.length:Int) <n.1 then none else
  let l:=IW n.1.toNat n.2
  let m:=Ad l.2
  if m.1 <0∨(b.length:Int) <m.1 then none else
   let r:=IW m.1.toNat m.2
   if Fk r.2≠0 then none else some (l.1,r.1,S.1)
def Dr (s:RS):Int×Int:=(Cb s 0,Cb s 1)
def TM:Nat→RS→Option (List Rgt×RS)
 |0,s=>some ([],s)
 |n+1,s=>(dR (Bl s).1).bind λr=>(TM n (Bl s).2).map λy=>(r::y.1,y.2)
def dE (b:List Int):Option Ext:=
 let s:=Bv (b,0) 4
 let t:=Bl s
 (WI t.1).bind λth=>(TM (CI b.length t.2).toNat (Ad t.2).2).bind λrs=>
  let cl:=BX 2 Dr (CI b.length rs.2).toNat (Ad rs.2).2
  let fs:=Am cl.2
  let p:=Bl fs.2
  (Tk p.1).bind λpf=>
   if Fk p.2≠0 then none else
    let x:Ext:=⟨Cb (b,0) 0,Cb (b,0) 1,Cb (b,0) 2,Cb (b,0) 3,th,rs.1,cl.1,fs.1,pf.1,pf.2.1,pf.2.2⟩
    if Fa x=0∧DP x=b then some x else none
variable {m:Nat}
theorem Lq {l:List Int} (h:Ec l m=true):l.length≤m:=by
 unfold Ec at h;rw[rV,sD]at h;have key:∀k,k <l.length→(k:Int)≤l.getD k 0:=by
  intro k;induction k with
  |zero=>
   intro hk;have:=h 0 (qj.2 hk);simp only[DA,decide_eq_true_eq]at this;omega
  |succ k ih=>
   intro hk;have h1:=ih (by omega);have:=h (k+1) (qj.2 hk);simp only[DA,decide_eq_true_eq,Nat.add_sub_cancel]at this;omega
 rcases tk l.length with h0|h0
 ·omega
 ·have h1:=key (l.length-1) (by omega);have h2:=h (l.length-1) (qj.2 (by omega));simp only[DA,decide_eq_true_eq]at h2;omega
theorem Ka {l:List Th} (h:Th.formeds l=true):∀x∈l,x.formed=true:=by
 induction l with
 |nil=>intro x hx;cases hx
 |cons y l ih=>
  simp only[Th.formeds,qI]at h;intro x hx;rcases qL.1 hx with rfl|hx
  ·exact h.1
  ·exact ih h.2 x hx
theorem Q2 {l:List Th} {x:Th} (hx:x∈l):x.depth≤Th.depths l:=by
 induction l with
 |nil=>cases hx
 |cons y l ih=>
  rw[Th.depths];rcases qL.1 hx with rfl|hx
  ·omega
  ·have:=ih hx;omega
theorem Se (l:List Th):l.length≤Th.sizes l:=by
 induction l with
 |nil=>simp
 |cons y l ih=>have:=y.size_pos;rw[Th.sizes,qT];omega
theorem UL (x:Val) (rest:List Int) (h:x.ok):Cy (CZ x++rest,0)=x∧Bv (CZ x++rest,0) 3=(rest,0):=by
 obtain⟨e1,e2,e3,e5⟩:=Qe h.1 h.2.1 h.2.2 rest (s:=(CZ x++rest,0)) (by simp[CZ]);exact⟨by unfold Cy;rw[e1,e2,e3],e5⟩
theorem UK {s:RS} (h:s.B):(Cy s).ok:=⟨Be h 0,Be h 1,Be h 2⟩
theorem VW {rd:RS→Th×RS×Bool}:∀(l:List Th) (rest:List Int),(∀x∈l,∀rest,rd (BD x++rest,0)=(x,(rest,0),true))→Me rd l.length (C9 l++rest,0)=(l,(rest,0),true)
 |[],rest,_=>rfl
 |x::l,rest,h=>by
  rw[qT,C9,qg,Me,h x (by simp),if_pos rfl,VW l rest λy hy=>h y (by simp[hy])]
theorem Yx:∀(k:Nat) (t:Th) (rest:List Int),t.full→t.depth≤k→t.size≤96→t.formed=true→dT k (BD t++rest,0)=(t,(rest,0),true)
 |0,.mk cs vs ps,rest,_,h,_,_=>by simp[Th.depth]at h
 |k+1,.mk cs vs ps,rest,hf,hd,hs,hF=>by
  obtain⟨h0,h1,h2,h3,h4,h5⟩:=hf;simp only[Th.formed,qI]at hF;have hv:=Lq (m:=32) hF.2.2.1;rw[qr]at hv;have hl:=Se ps;rw[Th.size]at hs;rw[Th.depth]at hd;have hp:=VW (rd:=dT k) ps rest λx hx rest=>Yx k x rest (h5 x hx) (by have:=Q2 hx;omega) (by have:=Th.sizes_le hx;omega) (Ka hF.2.2.2 x hx);have e:BD (.mk cs vs ps)++rest=Ah cs++(AN vs.length++(vs.flatMap CZ++(AN ps.length++(C9 ps++rest)))):=by simp[BD]
  rw[e];have k1:¬((vs.length:Int) <0∨32 <(vs.length:Int)):=by omega
  have k2:¬((ps.length:Int) <0∨96 <(ps.length:Int)):=by omega
  simp only[dT,Hc h0 (by omega),BC (show i64 (vs.length:Int) by unfold i64;omega),if_neg k1,qt,II UL vs _ h4,BC (show i64 (ps.length:Int) by unfold i64;omega),if_neg k2,hp]
theorem RU {t:Th} (h:F5 t=0):t.depth≤8∧t.size≤96∧t.formed=true:=by
 unfold F5 at h;split at h
 ·rename_i hl;rw[Nv,decide_eq_true_eq]at hl;split at h
  ·rename_i hf;exact⟨hl.1,hl.2,hf⟩
  ·cases h
 ·cases h
theorem aj {t:Th} (hf:t.full) (h:F5 t=0):WI (BD t)=some t:=by
 obtain⟨h1,h2,h3⟩:=RU h;have:=Yx 8 t [] hf h1 h2 h3;rw[sI]at this;unfold WI;simp only[this];rw[if_neg (by simp[Fk,h])]
theorem VV {rd:RS→Th×RS×Bool} (hrd:∀s:RS,s.B→s.1.length≤2^30→(rd s).1.full∧(rd s).2.1.1 <:+ s.1):∀(n:Nat) (s:RS),s.B→s.1.length≤2^30→(∀x∈(Me rd n s).1,x.full)∧(Me rd n s).1.length≤n∧(Me rd n s).2.1.1 <:+ s.1
 |0,s,_,_=>⟨(λx hx=>by cases hx),qM _,List.suffix_refl _⟩
 |n+1,s,hB,hl=>by
  obtain⟨r1,r2⟩:=hrd s hB hl;have:=r2.length_le;rw[Me];split
  ·obtain⟨k1,k2,k3⟩:=VV hrd n (rd s).2.1 (hB.suf r2) (by omega);refine⟨λx hx=>?_,by simp only[qT];omega,k3.trans r2⟩;rcases qL.1 hx with rfl|hx
   ·exact r1
   ·exact k1 x hx
  ·exact⟨(λx hx=>by cases hx),rF _,r2⟩
theorem VS:∀(k:Nat) (s:RS),s.B→s.1.length≤2^30→(dT k s).1.full∧(dT k s).2.1.1 <:+ s.1
 |0,s,hB,hl=>by
  obtain⟨h1,h2⟩:=GJ s hB;exact⟨.mk h2 (by omega) (by simp) (by simp) (λx hx=>by cases hx) (λx hx=>by cases hx),(Af _).trans (BN s)⟩
 |k+1,s,hB,hl=>by
  obtain⟨h1,h2⟩:=GJ s hB;have b1:=hB.suf (BN s);have b2:=b1.suf (Af (Am s).2);have u2:=(Af (Am s).2).trans (BN s);rw[dT];simp only;split
  ·exact⟨.mk h2 (by omega) (by simp) (by simp) (λx hx=>by cases hx) (λx hx=>by cases hx),u2⟩
  ·have e1:=DY 3 Cy (Ad (Am s).2).1.toNat (Ad (Am s).2).2;have e2:=GF (k:=3) (λs hs=>UK hs) (Ad (Am s).2).1.toNat (Ad (Am s).2).2 b2;have u3:=(Bk 3 Cy (Ad (Am s).2).1.toNat (Ad (Am s).2).2).trans u2;have b3:=hB.suf u3;generalize BX 3 Cy (Ad (Am s).2).1.toNat (Ad (Am s).2).2=vs at*;have u4:=(Af vs.2).trans u3;split
   ·exact⟨.mk h2 (by omega) (by omega) (by simp) e2 (λx hx=>by cases hx),u4⟩
   ·have:=u4.length_le;obtain⟨k1,k2,k3⟩:=VV (VS k) (Ad vs.2).1.toNat (Ad vs.2).2 (hB.suf u4) (by omega);exact⟨.mk h2 (by omega) (by omega) (by omega) e2 k1,k3.trans u4⟩
theorem ah {b:List Int} {t:Th} (hB:∀x∈b,0≤x∧x <256) (hl:b.length≤2^30) (h:WI b=some t):t.full∧F5 t=0:=by
 unfold WI at h;have:=VS 8 (b,0) hB hl;generalize dT 8 (b,0)=x at*;simp only at h;split at h
 ·cases h
 ·simp only[qF]at h;subst h;exact⟨this.1,by omega⟩
theorem VJ {C:Nat}:∀t:Th,(∀x,t=x→x.formed=true)→(BD t).length≤2000*t.size:=by
 refine Th.ind λcs vs ps ih=>?_;intro hF;have hF:=hF _ rfl;simp only[Th.formed,qI]at hF;have hc:=Lq (m:=64) hF.2.1;have hv:=Lq (m:=32) hF.2.2.1;rw[qr]at hv;have g1:=Au cs;have g2:=Aw (cs.length:Int);have g3:=AO (vs.length:Int);have g4:=AO (ps.length:Int);have g5:=EJ (m:=30) vs λx _=>Iv x;have g6:∀l:List Th,(∀x∈l,(BD x).length≤2000*x.size)→(C9 l).length≤2000*Th.sizes l:=by
  intro l;induction l with
  |nil=>intro _;simp[C9]
  |cons x l ihl=>
   intro h;have h1:=h x (by simp);have h2:=ihl λy hy=>h y (by simp[hy]);simp only[C9,qG,Th.sizes];omega
 have g7:=g6 ps λx hx=>ih x hx λy hy=>hy▸Ka hF.2.2.2 x hx;simp only[BD,Ah,qG,Th.size];omega
theorem Hy {t:Th} (h:F5 t=0):(BD t).length≤192000:=by
 obtain⟨h1,h2,h3⟩:=RU h;have:=VJ (C:=0) t λx hx=>hx▸h3;omega
theorem Qg:∀(l:List Int) (rest:List Int),(∀x∈l,u64 x)→IW l.length (l.flatMap CY++rest,0)=(l,(rest,0))
 |[],rest,_=>rfl
 |x::l,rest,h=>by
  rw[qT,qN,qg,IW,JJ (h x (by simp)),Qg l rest λy hy=>h y (by simp[hy])]
theorem Qf:∀(n:Nat) (s:RS),s.B→(∀x∈(IW n s).1,u64 x)∧(IW n s).1.length=n∧(IW n s).2.1 <:+ s.1
 |0,s,_=>⟨(λx hx=>by cases hx),rfl,List.suffix_refl _⟩
 |n+1,s,hB=>by
  obtain⟨k1,k2,k3⟩:=Qf n (As s).2 (hB.suf (Bi s));rw[IW];refine⟨λx hx=>?_,by simp[k2],k3.trans (Bi s)⟩;rcases qL.1 hx with rfl|hx
  ·exact GH s hB
  ·exact k1 x hx
theorem Gt:∀l:List Int,l.length≤(l.flatMap CY).length
 |[]=>by simp
 |x::l=>by
  have:=D3 9 x;have:=Gt l;simp only[qN,qG,qT,CY]at *;omega
theorem aq {L R S:List Int} (hL:∀x∈L,u64 x) (hR:∀x∈R,u64 x) (nL:L.length≤2^30) (nR:R.length≤2^30) (nS:S.length≤2^30):Tk (Cp L R S)=some (L,R,S):=by
 have g1:=Gt L;have g2:=Gt R;obtain⟨N,hN⟩:∃N,(Cp L R S).length=N:=⟨_,rfl⟩;have hN2:=hN;simp only[Cp,EN,qG]at hN2;have e:Cp L R S=AY S++(AN L.length++(L.flatMap CY++(AN R.length++(R.flatMap CY++[])))):=by simp[Cp,EN]
 unfold Tk;rw[hN,e];have k1:¬((L.length:Int) <0∨(N:Int) <(L.length:Int)):=by omega
 have k2:¬((R.length:Int) <0∨(N:Int) <(R.length:Int)):=by omega
 simp only[IJ (xs:=S) (by omega),BC (show i64 (L.length:Int) by unfold i64;omega),if_neg k1,qt,Qg L _ hL,BC (show i64 (R.length:Int) by unfold i64;omega),if_neg k2,Qg R _ hR];rw[if_neg (by simp[Fk])]
theorem am {b:List Int} {p:List Int×List Int×List Int} (hB:∀x∈b,0≤x∧x <256) (h:Tk b=some p):
  (∀x∈p.1,u64 x)∧(∀x∈p.2.1,u64 x)∧(∀x∈p.2.2,0≤x∧x <256)∧p.1.length≤b.length∧p.2.1.length≤b.length∧p.2.2.length≤b.length:=by
 unfold Tk at h;have b0:RS.B (b,0):=hB;have s1:=FU b0;have s2:=DZ (b,0);have b1:=b0.suf (CL (b,0));have b2:=b1.suf (Af _);simp only at h;split at h
 ·cases h
 ·obtain⟨k1,k2,k3⟩:=Qf (Ad (Bl (b,0)).2).1.toNat _ b2;have b3:=b2.suf k3;split at h
  ·cases h
  ·obtain⟨j1,j2,j3⟩:=Qf (Ad (IW (Ad (Bl (b,0)).2).1.toNat (Ad (Bl (b,0)).2).2).2).1.toNat _ (b3.suf (Af _));split at h
   ·cases h
   ·simp only[qF]at h;subst h;exact⟨k1,j1,s1,by simp only;omega,by simp only;omega,s2⟩
theorem Wd (x:Int×Int) (rest:List Int) (h:i64 x.1∧i64 x.2):Dr (H4 x++rest,0)=x∧Bv (H4 x++rest,0) 2=(rest,0):=by
 have e:(H4 x++rest,(0:Int))=(AN x.1++(AN x.2++rest),0):=by simp[H4]
 rw[e];have e1:Bv (AN x.1++(AN x.2++rest),0) 1=(AN x.2++rest,0):=by rw[Bv,Bv,BC h.1]
 refine⟨?_,by rw[Bv,e1,BC h.2]⟩;unfold Dr Cb;rw[e1,BC h.2,Bv,BC h.1]
theorem VT:∀(l:List Rgt) (rest:List Int),(∀r∈l,r.ok∧Ag r=true∧(Bg r).length≤2^50)→TM l.length (l.flatMap Ex++rest,0)=some (l,(rest,0))
 |[],rest,_=>rfl
 |r::l,rest,h=>by
  obtain⟨h1,h2,h3⟩:=h r (by simp);rw[qT,qN,qg,TM,Ex,IJ (by omega),gM h1 h2 h3,VT l rest λy hy=>h y (by simp[hy])];rfl
theorem Q3:∀(n:Nat) (s:RS) (y:List Rgt×RS),s.B→s.1.length≤2^30→TM n s=some y→(∀r∈y.1,r.ok∧Ag r=true∧isB (Bg r))∧y.2.1 <:+ s.1∧y.1.length=n∧(y.1.flatMap Ex).length+y.2.1.length≤s.1.length+10*n
 |0,s,y,_,_,h=>by
  simp only[TM,qF]at h;subst h;exact⟨λr hr=>(qn hr).elim,List.suffix_refl _,rfl,by simp⟩
 |n+1,s,y,hB,hl,h=>by
  rw[TM]at h;have u1:=CL s;have l1:=DZ s;have l2:=u1.length_le;have bb:=FU hB;have hsum:(Bl s).1.length+(Bl s).2.1.length≤s.1.length:=by
   have:=(Bi s).length_le;unfold Bl;split
   ·simpa using this
   ·split
    ·simpa using this
    ·simp only[qv,List.length_drop];omega
  obtain⟨r,hr,h⟩:=sK.1 h;obtain⟨y',hy,rfl⟩:=qQ.1 h;obtain⟨r1,r2,r3⟩:=gL bb (by omega) hr;obtain⟨k1,k2,k3,k4⟩:=Q3 n _ y' (hB.suf u1) (by omega) hy;refine⟨λx hx=>?_,k2.trans u1,by simp[k3],?_⟩
  ·rcases qL.1 hx with rfl|hx
   ·exact⟨r1,r2,by rw[r3];exact bb⟩
   ·exact k1 x hx
  ·have:=Aw ((Bg r).length:Int);have e:(Ex r).length=(CY ((Bg r).length:Int)).length+(Bg r).length:=by unfold Ex AY;rw[qG]
   simp only;rw[qN,qG,e];rw[r3]at this ⊢;omega
theorem Pk (l:List Rgt):l.length≤(l.flatMap Ex).length:=GR (λr=>by have:=D3 9 ((Bg r).length:Int);simp only[Ex,AY,qG,CY];omega) l
theorem Pm (l:List (Int×Int)):l.length≤(l.flatMap H4).length:=GR (λr=>by have:=D3 9 (Fy r.1);simp only[H4,qG,AN,CY];omega) l
theorem VE {x:Ext} (h:Fa x=0):F5 x.t=0∧∀r∈x.rs,Ag r=true:=by
 unfold Fa at h;split at h
 ·rename_i ht;split at h
  ·rename_i hr;exact⟨ht,qV.1 hr⟩
  ·cases h
 ·rename_i ht;exact absurd h ht
theorem gP {x:Ext} (hx:x.fit) (hz:Fa x=0):dE (DP x)=some x:=by
 obtain⟨z1,z2⟩:=VE hz;have hall:=hx.all;have h1:=hx.lr;have h2:=hx.lc;have h3:=hx.lf;have h4:=hx.lL;have h5:=hx.lR;have h6:=hx.lS;have g1:=Pk x.rs;have g2:=Pm x.cl;have g3:=BJ x.L;have g4:=BJ x.R;have g5:=Hy z1;obtain⟨L,hL⟩:∃L,(DP x).length=L:=⟨_,rfl⟩;have hL2:=hL;rw[hL]at hall;unfold DP at hL2;simp only[qG]at hL2;have hpf:(Cp x.L x.R x.S).length≤2^40:=by
  have:(Cp x.L x.R x.S).length≤(AY (Cp x.L x.R x.S)).length:=by unfold AY;rw[qG];omega
  omega
 have hrs:∀r∈x.rs,(Bg r).length≤2^50:=by
  intro r hr;have:=FH (f:=Ex) hr;simp only[Ex,AY,qG]at this;have e:(λr=>AY (Bg r))=Ex:=rfl;simp only[AY]at hL2;omega
 have hE:DP x=AN x.kind++(AN x.file++(AN x.party++(AN x.day++(AY (BD x.t)++(AN x.rs.length++(x.rs.flatMap Ex++(AN x.cl.length++(x.cl.flatMap H4++(Ah x.fs++(AY (Cp x.L x.R x.S)++[])))))))))):=by simp[DP]
 have z:∀n:Nat,n≤2^30→i64 (n:Int):=λn hn=>by unfold i64;omega
 obtain⟨e1,e2,e3,e4,e5⟩:=Qd hx.k hx.f hx.p hx.d _ (congrArg (λl=>((l,0):RS)) hE);unfold dE;rw[hL];simp only[e1,e2,e3,e4,e5,IJ (xs:=BD x.t) (by omega),aj hx.t z1,BC (z _ h1),Hl (L:=L) (z _ h1) _ (by omega) (by omega),qt,VT x.rs _ λr hr=>⟨hx.rs r hr,z2 r hr,hrs r hr⟩,qp,
  BC (z _ h2),Hl (L:=L) (z _ h2) _ (by omega) (by omega),II Wd x.cl _ hx.cl,Hc hx.fs (by omega),IJ (xs:=Cp x.L x.R x.S) (by omega),aq hx.L hx.R h4 h5 h6]
 rw[if_neg (by simp[Fk]),if_pos ⟨hz,trivial⟩]
theorem VX {b:List Int} (hB:∀x∈b,0≤x∧x <256) (hl:b.length≤2^30) {th:Th} (h1:WI (Bl (Bv (b,0) 4)).1=some th) {rs:List Rgt×RS} (h2:TM (CI b.length (Bl (Bv (b,0) 4)).2).toNat (Ad (Bl (Bv (b,0) 4)).2).2=some rs)
  {pf:List Int×List Int×List Int} (h3:Tk (Bl (Am (BX 2 Dr (CI b.length rs.2).toNat (Ad rs.2).2).2).2).1=some pf):
  (Ext.mk (Cb (b,0) 0) (Cb (b,0) 1) (Cb (b,0) 2) (Cb (b,0) 3) th rs.1 (BX 2 Dr (CI b.length rs.2).toNat (Ad rs.2).2).1 (Am (BX 2 Dr (CI b.length rs.2).toNat (Ad rs.2).2).2).1 pf.1 pf.2.1 pf.2.2).fit∧∀r∈rs.1,isB (Bg r):=by
 have b0:RS.B (b,0):=hB;have u1:(Bv (b,0) 4).1 <:+ b:=Gc (b,0) 4;have b1:=Ct b0 4;have l1:=DZ (Bv (b,0) 4);have k1:=u1.length_le;obtain⟨t1,t2⟩:=ah (FU b1) (by omega) h1;have t3:=Hy t2;have u2:=(CL (Bv (b,0) 4)).trans u1;have b2:=b1.suf (CL (Bv (b,0) 4));have m1:=DT b.length (Bl (Bv (b,0) 4)).2;have u3:=(Af (Bl (Bv (b,0) 4)).2).trans u2;have b3:=b2.suf (Af _);have k3:=u3.length_le;obtain⟨r1,r2,r3,r4⟩:=Q3 _ _ rs b3 (by omega) h2;have u4:=r2.trans u3;have b4:=b3.suf r2;have m2:=DT b.length rs.2;have b5:=b4.suf (Af rs.2);have c1:=DY 2 Dr (CI b.length rs.2).toNat (Ad rs.2).2;have c2:=GF (k:=2) (p:=λx:Int×Int=>i64 x.1∧i64 x.2) (mk:=Dr) (λs hs=>⟨Be hs 0,Be hs 1⟩) (CI b.length rs.2).toNat (Ad rs.2).2 b5;have u5:=(Bk 2 Dr (CI b.length rs.2).toNat (Ad rs.2).2).trans ((Af rs.2).trans u4);have b6:=b0.suf (s':=(BX 2 Dr (CI b.length rs.2).toNat (Ad rs.2).2).2) u5;generalize BX 2 Dr (CI b.length rs.2).toNat (Ad rs.2).2=cl at*;obtain⟨f1,f2⟩:=GJ cl.2 b6;have u6:=(BN cl.2).trans u5;have b7:=b6.suf (BN cl.2);have k5:=u5.length_le;generalize Am cl.2=fs at*;have l2:=DZ fs.2;have k6:=u6.length_le;obtain⟨p1,p2,p3,p4,p5,p6⟩:=am (FU b7) h3;refine⟨⟨Be b0 0,Be b0 1,Be b0 2,Be b0 3,t1,λr hr=>(r1 r hr).1,?_,c2,?_,f2,?_,p1,p2,p3,?_,?_,?_,?_⟩,λr hr=>(r1 r hr).2.2⟩
 ·simp only;omega
 ·simp only;omega
 ·simp only;omega
 ·simp only;omega
 ·simp only;omega
 ·simp only;omega
 ·have g1:=EJ (f:=H4) (m:=20) cl.1 λx _=>by
   have:=AO x.1;have:=AO x.2;simp only[H4,qG];omega
  have g2:=Au fs.1;have g3:=BJ pf.1;have g4:=BJ pf.2.1;have g5:([Cb (b,0) 0,Cb (b,0) 1,Cb (b,0) 2,Cb (b,0) 3].flatMap AN).length≤40:=Au _;have v1:=Aw ((BD th).length:Int);have v2:=AO (rs.1.length:Int);have v3:=AO (cl.1.length:Int);have v4:=Aw (fs.1.length:Int);have v5:=Aw ((Cp pf.1 pf.2.1 pf.2.2).length:Int);have v6:=Aw (pf.2.2.length:Int);have v7:=AO (pf.1.length:Int);have v8:=AO (pf.2.1.length:Int);have ePf:(Cp pf.1 pf.2.1 pf.2.2).length≤2^35:=by
   simp only[Cp,EN,AY,qG];omega
  have eF:(Ah fs.1).length≤2^35:=by simp only[Ah,qG];omega
  unfold DP;simp only[qG];have eT:(AY (BD th)).length≤192010:=by simp only[AY,qG];omega
  have eP:(AY (Cp pf.1 pf.2.1 pf.2.2)).length≤2^35+10:=by simp only[AY,qG];omega
  omega
theorem gO {b:List Int} {x:Ext} (hB:∀x∈b,0≤x∧x <256) (hl:b.length≤2^30) (h:dE b=some x):x.fit∧(∀r∈x.rs,isB (Bg r))∧Fa x=0∧DP x=b:=by
 unfold dE at h;simp only at h;obtain⟨th,h1,h⟩:=sK.1 h;obtain⟨rs,h2,h⟩:=sK.1 h;obtain⟨pf,h3,h⟩:=sK.1 h;split at h
 ·cases h
 ·split at h
  ·rename_i hd;simp only[qF]at h;subst h;obtain⟨q1,q2⟩:=VX hB hl h1 h2 h3;exact⟨q1,q2,hd⟩
  ·cases h
end
section
theorem Rm:∀(n:Nat) (s:RS),IW (n+1) s=((IW n s).1++[(As (IW n s).2).1],(As (IW n s).2).2)
 |0,s=>rfl
 |n+1,s=>by rw[IW,Rm n (As s).2];rfl
theorem We (n:Nat) (s:RS):(IW n s).1.length=n:=by
 induction n generalizing s with
 |zero=>rfl
 |succ n ih=>rw[IW];simp[ih]
theorem Ng:∀(n:Nat) (s:RS),(IW n s).2.1 <:+ s.1
 |0,s=>List.suffix_refl _
 |n+1,s=>(Ng n _).trans (Bi s)
def FM:Row:= .cells [.own 47 1 [],.own 47 1 [],.own 5 1 []]
def I1:Row:= .cells [.ref 2 0,.ref 2 1]
variable {Q:AExit→St→Prop}
section
variable (b:List Int) (ds:List D) (hd:ds.length=3) (j:Nat) (hj:j <2)
include hd hj
theorem ff (s:RS) (hB:s.B) (N:Nat) (hN:N≤2^31):
  awp Tryz.prog An (.loop (lG 115 1)) (λe st=>e= .exit 2∧st=⟨[(0,.v (AH .u8 b)),(2,.ref 0 0),(4,.ref 1 0),(5,.ref 2 0),(7,.ref 2 j),(16,.sref 3 2),(17,.v (.int .i64 2)),(18,.v (.int .i64 j)),(33,.v (.int .i64 N)),(34,.v (.int .i64 N)),(35,.v (.bool false))],[FM,(IW N s).2.row,.cells (ds.set j (.own 47 1 ((IW N s).1.map (.int .u64)))),I1]⟩)
   ⟨[(0,.v (AH .u8 b)),(2,.ref 0 0),(4,.ref 1 0),(5,.ref 2 0),(7,.ref 2 j),(16,.sref 3 2),(17,.v (.int .i64 2)),(18,.v (.int .i64 j)),(33,.v (.int .i64 N)),(34,.v (.int .i64 0))],[FM,s.row,.cells (ds.set j (.own 47 1 [])),I1]⟩:=by
 refine AM N (λk=>⟨[(0,.v (AH .u8 b)),(2,.ref 0 0),(4,.ref 1 0),(5,.ref 2 0),(7,.ref 2 j),(16,.sref 3 2),(17,.v (.int .i64 2)),(18,.v (.int .i64 j)),(33,.v (.int .i64 N)),(34,.v (.int .i64 k))],[FM,(IW k s).2.row,.cells (ds.set j (.own 47 1 ((IW k s).1.map (.int .u64)))),I1]⟩) (by simp[IW]) ?_;intro k hk;simp only[Zw,BA 115 1,AA 115 10];by_cases h1:k <N
 ·have hw:=Bo k;have hL:=We k s;have hS:=hB.suf (Ng k s);have hA:=Rm k s;generalize IW k s=R at*;have hroom:AK (k+1) 8=true:=by simp[AK];omega
  have q0:=λX3=>Rq R.2 hS [FM,R.2.row,X3,I1] 1 rfl;simp only[List.set_cons_succ,List.set_cons_zero]at q0;generalize (As R.2).1=x at*;generalize (As R.2).2=s' at*;have hj3:j <ds.length:=by omega
  simp[h1,AB];rw[CO];refine CT _ (λs hs=>⟨s,.inl rfl,hs⟩) ?_;simp only[AA 115 11];simp[hj3]
  constructor
  ·refine⟨_,_,(q0 _),?_⟩;simp[hj3,hroom,hL,hA,AA 115 12,hw]
  ·refine⟨_,_,(q0 _),?_⟩;simp[hj3,hroom,hL,hA,AA 115 12,hw]
 ·have:k=N:=by omega
  subst this;simp[AJ]
theorem Yc (hl:b.length≤2^30) (s:RS) (hB:s.B) (hds:ds[j]?=some (.own 47 1 []))
  (hbad:((Ad s).1 <0∨(b.length:Int) <(Ad s).1)→∀e J,AF e 2= .ref 0 0→AF e 3= .v (.int .i64 2)→Q .ret ⟨e,FM::J⟩)
  (hgo:¬((Ad s).1 <0∨(b.length:Int) <(Ad s).1)→Q .normal ⟨[(0,.v (AH .u8 b)),(2,.ref 0 0),(4,.ref 1 0),(5,.ref 2 0),(16,.sref 3 2),(17,.v (.int .i64 2)),(18,.v (.int .i64 (j+1)))],[FM,(IW (Ad s).1.toNat (Ad s).2).2.row,.cells (ds.set j (.own 47 1 ((IW (Ad s).1.toNat (Ad s).2).1.map (.int .u64)))),I1]⟩):
  awp Tryz.prog An (lG 115 0) Q ⟨[(0,.v (AH .u8 b)),(2,.ref 0 0),(4,.ref 1 0),(5,.ref 2 0),(16,.sref 3 2),(17,.v (.int .i64 2)),(18,.v (.int .i64 j))],[FM,s.row,.cells ds,I1]⟩:=by
 have q0:=DW s hB [FM,s.row,.cells ds,I1] 1 rfl;have b1:=hB.suf (Af s);have hin:=λN hN=>ff b ds hd j hj (Ad s).2 b1 N hN;simp only[List.set_cons_succ,List.set_cons_zero]at q0;generalize (Ad s).1=n at*;generalize (Ad s).2=s1 at*;have hds2:ds.set j (.own 47 1 [])=ds:=by
  obtain⟨g1,g2⟩:=qK.1 hds;rw[←g2,uB]
 have hw:=Bo j;have hj0:j=0∨j=1:=by omega
 have hj2:(j:Int) <2:=by omega
 have w1:IntKind.i64.wrap 1=1:=AQ;have w2:IntKind.i64.wrap 2=2:=AQ;have hR:I1= .cells [.ref 2 0,.ref 2 1]:=rfl;have hload:((([D.ref 2 0,.ref 2 1].drop j).take 1).head?:Option D)=some (.ref 2 j):=by rcases hj0 with rfl|rfl<;>rfl
 simp only[Zw,BA 115 0,AA 115 4];simp[hj2,AB];simp only[AA 115 5];rcases hj0 with rfl|rfl
 all_goals
  simp[hR];rw[←hR];simp only[AA 115 6];simp
  first|refine⟨_,_,q0,?_⟩|refine⟨_,q0,?_⟩|refine⟨_,⟨_,q0⟩,?_⟩|exact⟨_,q0⟩|exact⟨_,_,q0⟩|refine⟨⟨_,q0⟩,?_⟩
  simp only[AA 115 7];by_cases hn:n <0
  ·simp[hn,AH];simp only[AA 115 8];simp[FM,AS,AD];exact hbad (.inl hn) [(2,.ref 0 0),(3,.v (.int .i64 2))] _ rfl rfl
  ·by_cases hn2:(b.length:Int) <n
   ·simp[hn,hn2,AH];simp only[AA 115 8];simp[FM,AS,AD];exact hbad (.inr hn2) [(2,.ref 0 0),(3,.v (.int .i64 2))] _ rfl rfl
   ·obtain⟨N,rfl⟩:∃N:Nat,n=N:=⟨n.toNat,by omega⟩;have hgo:=hgo (by omega);rw[qt]at hgo;have hin:=hin N (by omega);rw[hds2]at hin;simp[hn2,AH];simp only[AA 115 9];simp;simp only[AH]at hin hgo;refine Ei hin ?_;simp only[AA 115 13];simp[w1,w2];simpa using hgo
end
def PD:Option (List Int×List Int×List Int)→List V
 |some p=>[.agg [AH .u64 p.1,AH .u64 p.2.1,AH .u8 p.2.2],.int .i64 0]
 |none=>[.agg [.list [],.list [],.list []],.int .i64 2]
theorem eJ (b:List Int) (hB:∀x∈b,0≤x∧x <256) (hl:b.length≤2^30):PX 115 [AH .u8 b] (PD (Tk b)):=by
 refine BU 115 ?_;have b0:RS.B (b,0):=hB;have q1:=M2 (b,0) b0 (by simp only;omega) [FM,Fq b] 1 rfl;have b1:=b0.suf (CL (b,0));obtain⟨G,hG⟩:∃G,PD (Tk b)=G:=⟨_,rfl⟩;rw[hG];unfold Tk at hG;simp only[List.set_cons_succ,List.set_cons_zero]at q1 hG;generalize (Bl (b,0)).1=S at*;generalize (Bl (b,0)).2=s1 at*;have q44:=Zg b (by omega) [FM];simp only[FM,AH]at q1 q44;simp only[Zw,At 115,AA 115 0,AA 115 1,AV];simp[AH];refine⟨_,_,q44,?_⟩;simp only[AA 115 2];simp;refine⟨_,_,q1,?_⟩;simp[AS,D.toRow];simp only[AA 115 3];simp;have hA:=Yc b [.own 47 1 [],.own 47 1 [],.v (.list (S.map (.int .u8)))] rfl 0 (by decide) hl s1 b1 rfl (Q:=λe st=>match e with
  | .ret=>((Ad s1).1 <0∨(b.length:Int) <(Ad s1).1)∧AF st.e 2= .ref 0 0∧AF st.e 3= .v (.int .i64 2)∧∃J,st.h=FM::J
  | .normal=>¬((Ad s1).1 <0∨(b.length:Int) <(Ad s1).1)∧st=⟨[(0,.v (AH .u8 b)),(2,.ref 0 0),(4,.ref 1 0),(5,.ref 2 0),(16,.sref 3 2),(17,.v (.int .i64 2)),(18,.v (.int .i64 1))],[FM,(IW (Ad s1).1.toNat (Ad s1).2).2.row,.cells [.own 47 1 ((IW (Ad s1).1.toNat (Ad s1).2).1.map (.int .u64)),.own 47 1 [],.v (.list (S.map (.int .u8)))],I1]⟩
  |_=>False) (λh e J f2 f3=>⟨h,f2,f3,J,rfl⟩) (λh=>⟨h,by simp⟩)
 have b2:=b1.suf (Af s1);generalize (Ad s1).1=n at*;generalize (Ad s1).2=s2 at*;simp only[FM,I1,AH,Int.natCast_zero]at hA;by_cases hn:n <0∨(b.length:Int) <n
 ·rw[if_pos hn]at hG;simp only[PD]at hG;subst hG;refine Aa (AZ _ ?_ hA);intro e st hh;cases e with
  |normal=>exact absurd hn hh.1
  |exit i=>exact hh.elim
  |ret=>
   obtain⟨_,f2,f3,J,hJ⟩:=hh;simp[f2,f3,hJ,AX 115,Bw,D.vs?,D.v?]
 ·rw[if_neg hn]at hG;obtain⟨N,rfl⟩:∃N:Nat,n=N:=⟨n.toNat,by omega⟩;rw[qt]at hG hA;have b3:=b2.suf (Ng N s2);generalize IW N s2=l at*;have hB2:=Yc b [.own 47 1 (l.1.map (.int .u64)),.own 47 1 [],.v (.list (S.map (.int .u8)))] rfl 1 (by decide) hl l.2 b3 rfl (Q:=λe st=>match e with
   | .ret=>((Ad l.2).1 <0∨(b.length:Int) <(Ad l.2).1)∧AF st.e 2= .ref 0 0∧AF st.e 3= .v (.int .i64 2)∧∃J,st.h=FM::J
   | .normal=>¬((Ad l.2).1 <0∨(b.length:Int) <(Ad l.2).1)∧st=⟨[(0,.v (AH .u8 b)),(2,.ref 0 0),(4,.ref 1 0),(5,.ref 2 0),(16,.sref 3 2),(17,.v (.int .i64 2)),(18,.v (.int .i64 2))],[FM,(IW (Ad l.2).1.toNat (Ad l.2).2).2.row,.cells [.own 47 1 (l.1.map (.int .u64)),.own 47 1 ((IW (Ad l.2).1.toNat (Ad l.2).2).1.map (.int .u64)),.v (.list (S.map (.int .u8)))],I1]⟩
   |_=>False) (λh e J f2 f3=>⟨h,f2,f3,J,rfl⟩) (λh=>⟨h,by simp⟩)
  have b4:=b3.suf (Af l.2);generalize (Ad l.2).1=m at*;generalize (Ad l.2).2=s4 at*;simp only[FM,I1,AH,tK]at hB2;refine A5 (s1:=⟨[(0,.v (AH .u8 b)),(2,.ref 0 0),(4,.ref 1 0),(5,.ref 2 0),(16,.sref 3 2),(17,.v (.int .i64 2)),(18,.v (.int .i64 1))],[FM,l.2.row,.cells [.own 47 1 (l.1.map (.int .u64)),.own 47 1 [],.v (.list (S.map (.int .u8)))],I1]⟩) (AZ _ (λe st hh=>?_) hA) ?_
  ·cases e with
   |normal=>exact hh.2
   |exit i=>exact hh.elim
   |ret=>exact absurd hh.1 hn
  by_cases hm:m <0∨(b.length:Int) <m
  ·rw[if_pos hm]at hG;simp only[PD]at hG;subst hG;refine Aa (AZ _ ?_ hB2);intro e st hh;cases e with
   |normal=>exact absurd hm hh.1
   |exit i=>exact hh.elim
   |ret=>
    obtain⟨_,f2,f3,J,hJ⟩:=hh;simp[f2,f3,hJ,AX 115,Bw,D.vs?,D.v?]
  ·rw[if_neg hm]at hG;obtain⟨M,rfl⟩:∃M:Nat,m=M:=⟨m.toNat,by omega⟩;rw[qt]at hG hB2;generalize IW M s4=r at*;have hend:=La r.2 [FM,r.2.row,.cells [.own 47 1 (l.1.map (.int .u64)),.own 47 1 (r.1.map (.int .u64)),.v (.list (S.map (.int .u8)))],I1] 1 rfl;refine A5 (s1:=⟨[(0,.v (AH .u8 b)),(2,.ref 0 0),(4,.ref 1 0),(5,.ref 2 0),(16,.sref 3 2),(17,.v (.int .i64 2)),(18,.v (.int .i64 2))],[FM,r.2.row,.cells [.own 47 1 (l.1.map (.int .u64)),.own 47 1 (r.1.map (.int .u64)),.v (.list (S.map (.int .u8)))],I1]⟩) (AZ _ (λe st hh=>?_) hB2) ?_
   ·cases e with
    |normal=>exact hh.2
    |exit i=>exact hh.elim
    |ret=>exact absurd hh.1 hm
   refine Aa ?_;simp only[Zw,BA 115 0,AA 115 4];simp[AJ];simp only[AA 115 14];simp;refine⟨_,_,hend,?_⟩;by_cases he:Fk r.2=0
   ·simp[he,PD]at hG;subst hG;simp[he,AB];simp only[AA 115 16];simp[FM,AS,D.toRow,D.vs?,D.v?,AD,AX 115,Bw,AH]
   ·simp[he,PD]at hG;subst hG;simp[he];simp only[AA 115 15];simp[FM,AS,AD,AX 115,Bw,D.vs?,D.v?]
end
section
def B8 (h:List Row) (r:Nat) (s:RS) (A B:Row) (J:List Row):List Row:=h.set r s.row++A::B::J
section
variable {h:List Row} {r:Nat} (hr:r <h.length) (s:RS) (A B:Row) (J:List Row)
include hr
theorem Ga:(B8 h r s A B J)[r]?=some s.row:=by
 unfold B8;rw[qe (by simpa using hr),rA (by simpa using hr)]
theorem HY (t:RS):(B8 h r s A B J).set r t.row=B8 h r t A B J:=by
 unfold B8;rw[rp _ _ (by simpa using hr),rI]
omit hr
theorem Fp:(B8 h r s A B J)[h.length]?=some A:=by
 unfold B8;rw[ql (by simp)];simp
theorem DG:(B8 h r s A B J)[h.length+1]?=some B:=by
 unfold B8;rw[ql (by simp)];simp
theorem FR (c:Row):(B8 h r s A B J).set h.length c=B8 h r s c B J:=by
 unfold B8;rw[sP _ _ (by simp)];simp
theorem Em (c:Row):(B8 h r s A B J).set (h.length+1) c=B8 h r s A c J:=by
 unfold B8;rw[sP _ _ (by simp)];simp
theorem Ms:(B8 h r s A B J).length=h.length+2+J.length:=by simp[B8];omega
theorem Mt (c:Row):B8 h r s A B J++[c]=B8 h r s A B (J++[c]):=by simp[B8]
theorem WX (c:Row):(B8 h r s A B (J++[c]))[h.length+2+J.length]?=some c:=by
 unfold B8;rw[ql (by simp;omega)];simp;rw[show h.length+2+J.length-h.length=J.length+2 by omega];simp
end
variable {r:Nat} {h:List Row}
theorem Qp {s:RS} (hl:Low h):Low (h.set r s.row):=by
 intro row hrow;rw[rD];rcases rn hrow with h1|rfl
 ·exact hl row h1
 ·rfl
variable {J:List Row}
theorem Sw {s:RS} {A B:Row} (hl:Low h) (hA:∀n,Row.low n A=true) (hB:∀n,Row.low n B=true) (hJ:Lows J):Low (B8 h r s A B J):=by
 unfold B8;exact(Qp hl).lows λrow hrow n=>by
  rcases qL.1 hrow with rfl|hrow
  ·exact hA n
  ·rcases qL.1 hrow with rfl|hrow
   ·exact hB n
   ·exact hJ row hrow n
section
variable {h:List Row} {r:Nat} (hr:r <h.length) (A:Row)
include hr
theorem fQ (c0 c2:D) (lv:Int) (s:RS) (hB:s.B) (n:Nat) (hn:n≤32):
  awp Tryz.prog An (.loop (lG 201 0)) (λe st=>e= .exit 0∧st=⟨[(0,.ref r 0),(1,.v (.int .i64 lv)),(4,.ref h.length 0),(6,.ref (h.length+1) 0),(26,.v (.int .i64 n)),(27,.v (.int .i64 n)),(28,.v (.bool false))],B8 h r (BX 3 Cy n s).2 A (.cells [c0,.own 171 3 ((BX 3 Cy n s).1.map Val.V),c2]) []⟩)
   ⟨[(0,.ref r 0),(1,.v (.int .i64 lv)),(4,.ref h.length 0),(6,.ref (h.length+1) 0),(26,.v (.int .i64 n)),(27,.v (.int .i64 0))],B8 h r s A (.cells [c0,.own 171 3 [],c2]) []⟩:=by
 refine AM n (λk=>⟨[(0,.ref r 0),(1,.v (.int .i64 lv)),(4,.ref h.length 0),(6,.ref (h.length+1) 0),(26,.v (.int .i64 n)),(27,.v (.int .i64 k))],B8 h r (BX 3 Cy k s).2 A (.cells [c0,.own 171 3 ((BX 3 Cy k s).1.map Val.V),c2]) []⟩) (by simp[BX]) ?_;intro k hk;simp only[Zw,BA 201 0,AA 201 6];by_cases h1:k <n
 ·have hw:=Bo k;have hL:=DY 3 Cy k s;have hS:=hB.suf (Bk 3 Cy k s);have hA:=GG 3 Cy k s;generalize BX 3 Cy k s=R at*;have hroom:AK (k+1) 24=true:=by simp[AK];omega
  have q0:=λB=>DW (Bv R.2 0) (Ct hS 0) (B8 h r (Bv R.2 0) A B []) r (Ga hr _ _ _ _);have q1:=λB=>DW (Bv R.2 1) (Ct hS 1) (B8 h r (Bv R.2 1) A B []) r (Ga hr _ _ _ _);have q2:=λB=>DW (Bv R.2 2) (Ct hS 2) (B8 h r (Bv R.2 2) A B []) r (Ga hr _ _ _ _);have e0:(Ad (Bv R.2 0)).2=Bv R.2 1:=rfl;have e1:(Ad (Bv R.2 1)).2=Bv R.2 2:=rfl;have e2:(Ad (Bv R.2 2)).2=Bv R.2 3:=rfl;have f0:(Ad (Bv R.2 0)).1=(Cy R.2).a:=rfl;have f1:(Ad (Bv R.2 1)).1=(Cy R.2).n:=rfl;have f2:(Ad (Bv R.2 2)).1=(Cy R.2).d:=rfl;simp only[HY hr,e0,e1,e2,f0,f1,f2]at q0 q1 q2;have hd:Bv R.2 0=R.2:=rfl;rw[hd]at q0;have hV:(Cy R.2).V= .agg [.int .i64 (Cy R.2).a,.int .i64 (Cy R.2).n,.int .i64 (Cy R.2).d]:=rfl;simp[h1,AB];rw[CO];refine CT _ (λs hs=>⟨s,.inl rfl,hs⟩) ?_;simp only[AA 201 7];simp[DG,Em];generalize Cy R.2=x at*;generalize Bv R.2 1=s1 at*;generalize Bv R.2 2=s2 at*;generalize Bv R.2 3=s3 at*;have hm:R.1.length=k:=hL
  constructor
  ·refine⟨_,_,(q0 _),?_⟩;simp;refine⟨_,_,(q1 _),?_⟩;simp;refine⟨_,_,(q2 _),?_⟩;simp[DG,Em,AS,hroom,hm,hA,hV,AA 201 8,hw]
  ·refine⟨_,_,(q0 _),?_⟩;simp[DG,Em]
   constructor
   ·refine⟨_,_,(q1 _),?_⟩;simp;refine⟨_,_,(q2 _),?_⟩;simp[DG,Em,AS,hroom,hm,hA,hV,AA 201 8,hw]
   ·refine⟨_,_,(q1 _),?_⟩;simp[DG,Em]
    constructor
    ·refine⟨_,_,(q2 _),?_⟩;simp[DG,Em,AS,hroom,hm,hA,hV,AA 201 8,hw]
    ·refine⟨_,_,(q2 _),?_⟩;simp[DG,Em,AS,hroom,hm,hA,hV,AA 201 8,hw]
 ·have:k=n:=by omega
  subst this;simp[AJ]
end
theorem SK {rd:RS→Th×RS×Bool} (h:∀s,(rd s).2.1.1 <:+ s.1):∀(n:Nat) (s:RS),(Me rd n s).2.1.1 <:+ s.1
 |0,s=>List.suffix_refl _
 |n+1,s=>by
  rw[Me];split
  ·exact(SK h n _).trans (h s)
  ·exact h s
theorem VR:∀(k:Nat) (s:RS),(dT k s).2.1.1 <:+ s.1
 |0,s=>(Af _).trans (BN s)
 |k+1,s=>by
  have u2:=(Af (Am s).2).trans (BN s);rw[dT];simp only;split
  ·exact u2
  ·split
   ·exact(Af _).trans ((Bk 3 Cy _ _).trans u2)
   ·exact(SK (VR k) _ _).trans ((Af _).trans ((Bk 3 Cy _ _).trans u2))
def QZ (cs:List Int) (vs:List Val) (ps:List Th):Row:= .cells [.v (AH .i64 cs),.own 171 3 (vs.map Val.V),.own 58 3 (ps.map Th.V)]
def HZ:Row:= .cells [.own 3 1 [],.own 171 3 [],.own 58 3 []]
def WE (lv:Int) (rd:RS→Th×RS×Bool):Prop:=∀(s:RS) (h:List Row) (r:Nat),Low h→s.B→s.1.length≤2^44→h[r]?=some s.row→FX 201 [.ref r 0,.v (.int .i64 lv)] h [.v (rd s).1.V,.v (.bool (rd s).2.2)] (h.set r (rd s).2.1.row)
section
variable {h:List Row} {r:Nat} (hr:r <h.length) (hlow:Low h) (cs:List Int) (vs:List Val)
include hr hlow
theorem fP (lv:Int) (hlv:IntKind.i64.wrap (lv+1)=lv+1) (rd:RS→Th×RS×Bool) (hs:∀s:RS,s.B→s.1.length≤2^44→(rd s).2.1.1 <:+ s.1) (hrd:WE (lv+1) rd) (N:Nat) (hN:N≤96):∀(k:Nat) (s:RS) (ps:List Th) (J:List Row),ps.length+k=N→s.B→s.1.length≤2^44→Lows J→
  awp Tryz.prog An (.loop (lG 201 1)) (λe st=>((Me rd k s).2.2=true→e= .exit 2∧AF st.e 4= .ref h.length 0∧AF st.e 6= .ref (h.length+1) 0∧∃J,st.h=B8 h r (Me rd k s).2.1 HZ (QZ cs vs (ps++(Me rd k s).1)) J)∧
    ((Me rd k s).2.2=false→e= .ret∧AF st.e 4= .ref h.length 0∧AF st.e 5= .v (.bool false)∧∃J,st.h=B8 h r (Me rd k s).2.1 (.cells (Th.mk cs vs (ps++(Me rd k s).1)).cells) (QZ cs vs (ps++(Me rd k s).1)) J))
   ⟨[(0,.ref r 0),(1,.v (.int .i64 lv)),(4,.ref h.length 0),(6,.ref (h.length+1) 0),(52,.v (.int .i64 N)),(53,.v (.int .i64 ps.length))],B8 h r s HZ (QZ cs vs ps) J⟩:=by
 intro k;induction k with
 |zero=>
  intro s ps J hk hB hsl hJ;refine Aa ?_;simp only[Zw,BA 201 1,AA 201 13];have h1:¬((ps.length:Int) <N):=by omega
  simp[h1,AJ,Me];exact⟨J,rfl⟩
 |succ k ih=>
  intro s ps J hk hB hsl hJ;have h1:ps.length <N:=by omega
  have hw:IntKind.i64.wrap ((ps.length:Int)+1)=ps.length+1:=AQ;have hroom:AK (ps.length+1) 72=true:=by simp[AK];omega
  have q:=hrd s (B8 h r s HZ (QZ cs vs ps) J) r (Sw hlow (λn=>rfl) (λn=>rfl) hJ) hB hsl (Ga hr _ _ _ _);rw[HY hr]at q;have hsf:=hs s hB hsl;have ih:=λps J' hl hJ'=>ih (rd s).2.1 ps J' hl (hB.suf hsf) (qo hsf.length_le hsl) hJ';rw[Me];generalize rd s=R at*;obtain⟨⟨tc,tv,tp⟩,s',ok⟩:=R;simp only[Th.V_eq,AH]at q;simp only at ih ⊢;cases ok with
  |false=>
   refine Aa ?_;simp only[Zw,BA 201 1,AA 201 13];simp[h1,AB];simp only[AA 201 14];simp[hlv];refine⟨_,_,q,?_⟩;simp[Ms,Mt,AS,D.toRow];simp only[AA 201 15];simp;simp only[AA 201 16];simp[QZ,DG,Fp,FR,HZ,AS,AD];exact⟨_,by simp[Th.cells,Th.cs,Th.vs,Th.ps,AH];rfl⟩
  |true=>
   have ih:=ih (ps++[.mk tc tv tp]) (J++[.cells (Th.mk tc tv tp).cells]) (by simp;omega) (hJ.app λn=>rfl);simp only[qg,tN]at ih;refine A5 ?_ (by simpa using ih);simp only[Zw,BA 201 1,AA 201 13];simp[h1,AB];simp only[AA 201 14];simp[hlv];refine⟨_,_,q,?_⟩;simp[Ms,Mt,AS,D.toRow];simp only[AA 201 15];simp;simp only[AA 201 17];simp[QZ,DG,Em,WX,D.vs?,D.v?,hroom];simp only[AA 201 18];simp[hw,Th.V_eq,Th.cells,Th.cs,Th.vs,Th.ps,AH]
end
theorem YX:∀(k:Nat),k≤8→WE ((9-k:Nat):Int) (dT k)
 |0,_=>by
  intro s h r hlow hB hsl hhr;have hr:=Di hhr;have q1:=λA=>M1 s hB hsl (h++[A]) r (Az _ hhr);have b1:=hB.suf (BN s);have q2:=λA B=>DW (Am s).2 b1 (B8 h r (Am s).2 A B []) r (Ga hr _ _ _ _);simp only[HY hr,I8 _ hhr]at q1 q2;refine CW (KN 201) rfl (by simp) (Qp hlow) (by simp[D.lt]) ?_;rw[dT];generalize (Am s).1=cs at*;generalize (Am s).2=s1 at*;generalize (Ad s1).1=n at*;generalize (Ad s1).2=s2 at*;have e2:∀A B,h.set r s1.row++[A,B]=B8 h r s1 A B []:=λA B=>rfl;simp only[Zw,At 201,AA 201 0,AA 201 1,Ab];simp;refine⟨_,_,(q1 _),?_⟩;simp[AS,e2];simp only[AA 201 2];simp;refine⟨_,_,(q2 _ _),?_⟩;simp only[AA 201 3];simp;simp only[AA 201 4];simp[Fp,DG,FR,AS,AD,AX 201,Th.V_eq,D.one?,D.vs?,D.v?,AH];exact⟨_,rfl⟩
 |k+1,hk=>by
  intro s h r hlow hB hsl hhr;have hr:=Di hhr;have q1:=λA=>M1 s hB hsl (h++[A]) r (Az _ hhr);have b1:=hB.suf (BN s);have l1:=(BN s).length_le;have q2:=λA B=>DW (Am s).2 b1 (B8 h r (Am s).2 A B []) r (Ga hr _ _ _ _);have b2:=b1.suf (Af (Am s).2);have l2:=(Af (Am s).2).length_le;simp only[HY hr,I8 _ hhr]at q1 q2;refine CW (KN 201) rfl (by simp) (Qp hlow) (by simp[D.lt]) ?_;rw[dT];simp only;generalize (Am s).1=cs at*;generalize (Am s).2=s1 at*;generalize (Ad s1).1=n at*;generalize (Ad s1).2=s2 at*;have e2:∀A B,h.set r s1.row++[A,B]=B8 h r s1 A B []:=λA B=>rfl;have lv1:¬(8:Int) <((9-(k+1):Nat):Int):=by omega
  have lv2:IntKind.i64.wrap (((9-(k+1):Nat):Int)+1)=((9-(k+1):Nat):Int)+1:=AQ;have lv3:((9-(k+1):Nat):Int)+1=((9-k:Nat):Int):=by omega
  have hrec:=YX k (by omega);rw[←lv3]at hrec;generalize ((9-(k+1):Nat):Int)=lv at*;simp only[Zw,At 201,AA 201 0,AA 201 1,Ab];simp;refine⟨_,_,(q1 _),?_⟩;simp[AS,e2];simp only[AA 201 2];simp;refine⟨_,_,(q2 _ _),?_⟩;simp only[AA 201 3];by_cases hn:n <0∨32 <n
  ·rw[if_pos hn];rcases hn with hn|hn
   ·simp[lv1,hn];simp only[AA 201 4];simp[Fp,DG,FR,AS,AD,AX 201,Th.V_eq,D.one?,D.vs?,D.v?,AH];exact⟨_,rfl⟩
   ·have hn2:¬n <0:=by omega
    simp[lv1,hn,hn2];simp only[AA 201 4];simp[Fp,DG,FR,AS,AD,AX 201,Th.V_eq,D.one?,D.vs?,D.v?,AH];exact⟨_,rfl⟩
  ·rw[if_neg hn];have hn1:¬n <0:=by omega
   have hn2:¬32 <n:=by omega
   obtain⟨N,rfl⟩:∃N:Nat,n=N:=⟨n.toNat,by omega⟩;rw[qt];have hv:=fQ hr HZ (.v (AH .i64 cs)) (.own 58 3 []) lv s2 b2 N (by omega);have b3:=b2.suf (Bk 3 Cy N s2);have l3:=(Bk 3 Cy N s2).length_le;generalize BX 3 Cy N s2=vs at*;have q3:=λA B=>DW vs.2 b3 (B8 h r vs.2 A B []) r (Ga hr _ _ _ _);have b4:=b3.suf (Af vs.2);have l4:=(Af vs.2).length_le;simp only[HY hr]at q3;generalize (Ad vs.2).1=m at*;generalize (Ad vs.2).2=s4 at*;simp[lv1,hn1,hn2,AB];simp only[AA 201 5];simp;simp only[HZ,AH]at hv;refine Ei hv ?_;simp only[AA 201 9];simp;refine⟨_,_,(q3 _ _),?_⟩;simp only[AA 201 10];by_cases hm:m <0∨96 <m
   ·rw[if_pos hm];rcases hm with hm|hm
    ·simp[hm];simp only[AA 201 11];simp[Fp,DG,FR,AS,AD,AX 201,Th.V_eq,D.one?,D.vs?,D.v?,AH];exact⟨_,rfl⟩
    ·have hm2:¬m <0:=by omega
     simp[hm,hm2];simp only[AA 201 11];simp[Fp,DG,FR,AS,AD,AX 201,Th.V_eq,D.one?,D.vs?,D.v?,AH];exact⟨_,rfl⟩
   ·rw[if_neg hm];have hm1:¬m <0:=by omega
    have hm2:¬96 <m:=by omega
    obtain⟨M,rfl⟩:∃M:Nat,m=M:=⟨m.toNat,by omega⟩;rw[qt];have hp:=fP hr hlow cs vs.1 lv lv2 (dT k) (λs hB hsl=>VR k s) hrec M (by omega) M s4 [] [] (by simp) b4 (by omega) Lows.nil;simp[hm1,hm2];simp only[AA 201 12];simp;simp[HZ,QZ,AH]at hp;refine AZ _ ?_ hp;generalize Me (dT k) M s4=P at*;rintro e ⟨se,sh⟩ ⟨g1,g2⟩;obtain⟨ps,s5,ok⟩:=P;cases ok with
    |false=>
     obtain⟨rfl,f4,f5,J,hh⟩:=g2 rfl;simp only at f4 f5 hh;subst hh;simp[f4,f5,Fp,AX 201,Th.V_eq,Th.cells,Th.cs,Th.vs,Th.ps,D.one?,D.vs?,D.v?,AH];exact⟨_,rfl⟩
    |true=>
     obtain⟨rfl,f4,f6,J,hh⟩:=g1 rfl;simp only at f4 f6 hh;subst hh;simp;simp only[AA 201 19];simp[f4,f6,Fp,DG,FR,AS,AD,AX 201,Th.V_eq,D.one?,D.vs?,D.v?,AH];exact⟨_,rfl⟩
def PK:Th:= .mk [] [] []
def PC:Option Th→List V
 |some t=>[t.V,.int .i64 0]
 |none=>[PK.V,.int .i64 2]
theorem eM (b:List Int) (hB:∀x∈b,0≤x∧x <256) (hl:b.length≤2^30):PX 111 [AH .u8 b] (PC (WI b)):=by
 refine BU 111 ?_;have hR:=YX 8 (by decide) (b,0) [HZ,Fq b] 1 (by
  intro row hrow;simp only[qL,qn,or_false]at hrow;rcases hrow with rfl|rfl<;>rfl) hB (by simp only;omega) rfl
 have hf:=(VS 8 (b,0) hB hl).1;obtain⟨G,hG⟩:∃G,PC (WI b)=G:=⟨_,rfl⟩;rw[hG];unfold WI at hG;generalize dT 8 (b,0)=x at*;obtain⟨t,s,ok⟩:=x;simp only at hf hR hG;have q67:=(oO t hf.ok).fsp;have q116:=λ(X1 X3:Row)=>La s [X1,s.row,X3] 1 rfl;generalize F5 t=e at*;obtain⟨tc,tv,tp⟩:=t;simp only[Th.V_eq,AH,HZ]at hR q67;simp at hR;simp only[At 111,AE,AG,AL,AA 111 0,AA 111 1,AV];simp;refine⟨_,_,(Zg b (by omega) _),?_⟩;simp only[AA 111 2];simp;refine⟨_,_,hR,?_⟩;simp[AS,D.toRow];simp only[AA 111 3];cases ok with
 |false=>
  simp[PC,PK,Th.V_eq,AH]at hG;subst hG;simp;simp only[AA 111 4];simp[AS,AD,AX 111,Bw,D.vs?,D.v?]
 |true=>
  simp;refine⟨_,_,(q116 _ _),?_⟩;by_cases he:Fk s=0
  ·simp[he,D.vs?,D.v?];refine⟨_,_,q67 _,?_⟩;by_cases h0:e=0
   ·simp[he,h0,PC,Th.V_eq,AH]at hG;subst hG;simp[h0,AB];simp only[AA 111 5];simp[AS,D.toRow,D.vs?,D.v?,AD,AX 111,Bw]
   ·simp[he,h0,PC,PK,Th.V_eq,AH]at hG;subst hG;simp[h0];simp only[AA 111 4];simp[AS,AD,AX 111,Bw,D.vs?,D.v?]
  ·simp[he,PC,PK,Th.V_eq,AH]at hG;subst hG;simp[he];simp only[AA 111 4];simp[AS,AD,AX 111,Bw,D.vs?,D.v?]
end
section
def ZR:AT:=match la 43 with| .seq _ (.seq _ (.seq _ (.seq (.regA _ _ _ t) _)))=>t|_=> .done
def Y0:List (List Nat):=match la 43 with| .seq _ (.seq _ (.seq _ (.seq (.regA _ _ c _) _)))=>c|_=>[]
def iG:AC:=match la 43 with| .seq _ (.seq _ (.seq _ (.seq _ t)))=>t|_=> .skip
theorem bU:(gA 43)= .seq (.reg (oG 43 0) [1,2]) (.seq (.reg (oG 43 1) [1,2,4]) (.seq (.reg (oG 43 2) [1,2,4,5]) (.seq (.regA (oG 43 3) [1,2,4,5,6] Y0 ZR) iG))):=(At 43 :)
def Y9:List GI:=lo 43 3
theorem gI:oG 43 3=Y9:=(AA 43 3 :)
theorem Tx:ZR.chk Y9 Y0 (List.range 11)=true:=by kernel_rfl
def PJ:List (Option Nat):=[some 19,some 20,some 21,some 22,some 23,some 24,some 25,some 26,some 27,some 6,none]
def HE:List (Option Nat):=[none,none,none,none,none,none,none,none,none,none,none]
def MD:List Nat:=[1,2,4,5]
theorem Hg:Uh PJ MD=true:=by kernel_rfl
def U6 (s:RS):D:= .agg [.v (.int .i64 (Cb s 0)),.v (.int .i64 (Cb s 1)),.v (.int .i64 (Cb s 2)),.v (.int .i64 (Cb s 3)),.nil 3 1,.nil 171 3,.nil 58 3,.nil 74 8,.nil 76 2,.nil 3 1,.nil 47 1,.nil 47 1,.nil 5 1]
def cn (s:RS) (j:Nat):D:=
 match j with
 |0|2|4|6=> .ref 2 0
 |1=> .v (.int .i64 (Cb s 0))
 |3=> .v (.int .i64 (Cb s 1))
 |5=> .v (.int .i64 (Cb s 2))
 |7=> .v (.int .i64 (Cb s 3))
 |8=>U6 s
 |9=> .ref 4 0
 |_=> .any
def De (d:Nat→Bool):Nat:=if d 7 then 4 else (if d 5 then 3 else (if d 3 then 2 else (if d 1 then 1 else 0)))
def EX (s:RS) (d:Nat→Bool):List Row:=
 if d 9 then (if d 10 then [.cells [.v (.int .i64 (Cb s 0)),.v (.int .i64 (Cb s 1)),.v (.int .i64 (Cb s 2)),.v (.int .i64 (Cb s 3)),.own 3 1 [],.own 171 3 [],.own 58 3 [],.own 74 8 [],.own 76 2 [],.own 3 1 [],.own 47 1 [],.own 47 1 [],.own 5 1 []]]
  else [.cells [.v (.int .i64 0),.v (.int .i64 0),.v (.int .i64 0),.v (.int .i64 0),.own 3 1 [],.own 171 3 [],.own 58 3 [],.own 74 8 [],.own 76 2 [],.own 3 1 [],.own 47 1 [],.own 47 1 [],.own 5 1 []]]) else []
def A0 (C0 C1:Row) (s:RS) (d:Nat→Bool):List Row:=[C0,C1,(Bv s (De d)).row,.cells [.ref 2 0]]++EX s d
def SO (j:Nat):D:=
 match j with
 |1=> .ref 0 0
 |2=> .ref 1 0
 |4=> .ref 3 0
 |5=> .func 109 [.ref 3 0,.ref 0 0]
 |_=> .any
variable {K:St→Prop}
theorem ma (C0 C1:Row) (s:RS) (hB:s.B)
  (hK:∀e,(∀k'∈MD,AF e k'=SO k')→AF e 6= .ref 4 0→K ⟨e,A0 C0 C1 s (λ_=>true)⟩) (se:CH) (hse:∀k'∈MD,AF se k'=SO k'):
  ZR.ok Tryz.prog An (oG 43 3) K ⟨se,A0 C0 C1 s (λj=>decide (11≤j))⟩:=by
 rw[gI];refine GU (λd st=>EnvD PJ HE MD (cn s) SO d st.e∧st.h=A0 C0 C1 s d) Tx ?_ ?_ ?_
 ·rintro d i ⟨e,h⟩ hi hdi hdep hup ⟨hE,hh⟩;simp only at hE hh;subst hh;have b4:AF e 4= .ref 3 0:=hE.2 4 (by simp[MD])
  match i,hi with
  |0,_=>
   exact⟨_,Ay (v:= .ref 2 0) rfl (by simp[PI.val,Opd.ev,b4,A0,D.part,D.copy]),hE.push Hg 0 19 rfl rfl,by simp[A0,De,EX,Cj]⟩
  |2,_=>
   exact⟨_,Ay (v:= .ref 2 0) rfl (by simp[PI.val,Opd.ev,b4,A0,D.part,D.copy]),hE.push Hg 2 21 rfl rfl,by simp[A0,De,EX,Cj]⟩
  |4,_=>
   exact⟨_,Ay (v:= .ref 2 0) rfl (by simp[PI.val,Opd.ev,b4,A0,D.part,D.copy]),hE.push Hg 4 23 rfl rfl,by simp[A0,De,EX,Cj]⟩
  |6,_=>
   exact⟨_,Ay (v:= .ref 2 0) rfl (by simp[PI.val,Opd.ev,b4,A0,D.part,D.copy]),hE.push Hg 6 25 rfl rfl,by simp[A0,De,EX,Cj]⟩
  |1,_=>
   have v0:AF e 19= .ref 2 0:=hE.1 0 19 rfl (hdep 0 (by decide)) (by intro c hc;simp[HE]at hc);have d3:d 3=false:=hup 3 (by decide) (by decide);have d5:d 5=false:=hup 5 (by decide) (by decide);have d7:d 7=false:=hup 7 (by decide) (by decide);have hF:FX 45 [.ref 2 0] (A0 C0 C1 s d) [.v (.int .i64 (Cb s 0))] ((A0 C0 C1 s d).set 2 (Bv s 1).row):=DW (Bv s 0) (Ct hB 0) _ 2 (by simp[A0,De,hdi,d3,d5,d7]);exact⟨_,Bu (k:=20) (r:= .v (.int .i64 (Cb s 0))) rfl (by simpa[Ar,D.arg,Opd.ev,v0]using hF),hE.push Hg 1 20 rfl rfl,by simp[A0,De,EX,Cj,hdi,d3,d5,d7]⟩
  |3,_=>
   have v2:AF e 21= .ref 2 0:=hE.1 2 21 rfl (hdep 2 (by decide)) (by intro c hc;simp[HE]at hc);have d5:d 5=false:=hup 5 (by decide) (by decide);have d7:d 7=false:=hup 7 (by decide) (by decide);have d1:d 1=true:=hdep 1 (by decide);have hF:FX 45 [.ref 2 0] (A0 C0 C1 s d) [.v (.int .i64 (Cb s 1))] ((A0 C0 C1 s d).set 2 (Bv s 2).row):=DW (Bv s 1) (Ct hB 1) _ 2 (by simp[A0,De,hdi,d5,d7,d1]);exact⟨_,Bu (k:=22) (r:= .v (.int .i64 (Cb s 1))) rfl (by simpa[Ar,D.arg,Opd.ev,v2]using hF),hE.push Hg 3 22 rfl rfl,by simp[A0,De,EX,Cj,hdi,d5,d7,d1]⟩
  |5,_=>
   have v4:AF e 23= .ref 2 0:=hE.1 4 23 rfl (hdep 4 (by decide)) (by intro c hc;simp[HE]at hc);have d7:d 7=false:=hup 7 (by decide) (by decide);have d1:d 1=true:=hdep 1 (by decide);have d3:d 3=true:=hdep 3 (by decide);have hF:FX 45 [.ref 2 0] (A0 C0 C1 s d) [.v (.int .i64 (Cb s 2))] ((A0 C0 C1 s d).set 2 (Bv s 3).row):=DW (Bv s 2) (Ct hB 2) _ 2 (by simp[A0,De,hdi,d7,d3]);exact⟨_,Bu (k:=24) (r:= .v (.int .i64 (Cb s 2))) rfl (by simpa[Ar,D.arg,Opd.ev,v4]using hF),hE.push Hg 5 24 rfl rfl,by simp[A0,De,EX,Cj,hdi,d7,d3]⟩
  |7,_=>
   have v6:AF e 25= .ref 2 0:=hE.1 6 25 rfl (hdep 6 (by decide)) (by intro c hc;simp[HE]at hc);have d1:d 1=true:=hdep 1 (by decide);have d3:d 3=true:=hdep 3 (by decide);have d5:d 5=true:=hdep 5 (by decide);have hF:FX 45 [.ref 2 0] (A0 C0 C1 s d) [.v (.int .i64 (Cb s 3))] ((A0 C0 C1 s d).set 2 (Bv s 4).row):=DW (Bv s 3) (Ct hB 3) _ 2 (by simp[A0,De,hdi,d5]);exact⟨_,Bu (k:=26) (r:= .v (.int .i64 (Cb s 3))) rfl (by simpa[Ar,D.arg,Opd.ev,v6]using hF),hE.push Hg 7 26 rfl rfl,by simp[A0,De,EX,Cj,hdi,d5]⟩
  |8,_=>
   have v1:AF e 20= .v (.int .i64 (Cb s 0)):=hE.1 1 20 rfl (hdep 1 (by decide)) (by intro c hc;simp[HE]at hc);have v3:AF e 22= .v (.int .i64 (Cb s 1)):=hE.1 3 22 rfl (hdep 3 (by decide)) (by intro c hc;simp[HE]at hc);have v5:AF e 24= .v (.int .i64 (Cb s 2)):=hE.1 5 24 rfl (hdep 5 (by decide)) (by intro c hc;simp[HE]at hc);have v7:AF e 26= .v (.int .i64 (Cb s 3)):=hE.1 7 26 rfl (hdep 7 (by decide)) (by intro c hc;simp[HE]at hc);exact⟨_,Ay (v:=U6 s) rfl (by simp[PI.val,Et,Opd.ev,v1,v3,v5,v7,D.cells?,D.copy,AS,U6]),hE.push Hg 8 27 rfl rfl,by simp[A0,De,EX,Cj]⟩
  |9,_=>
   have d10:d 10=false:=hup 10 (by decide) (by decide);refine⟨_,Bs (s1:=⟨(6,.ref 4 0)::e,A0 C0 C1 s (Cj d 9)⟩) rfl ?_,hE.push Hg 9 6 rfl rfl,rfl⟩;simp[AI.step,A0,De,EX,Cj,hdi,d10]
  |10,_=>
   have v8:AF e 27=U6 s:=hE.1 8 27 rfl (hdep 8 (by decide)) (by intro c hc;simp[HE]at hc);have v9:AF e 6= .ref 4 0:=hE.1 9 6 rfl (hdep 9 (by decide)) (by intro c hc;simp[HE]at hc);have d9:d 9=true:=hdep 9 (by decide);refine⟨_,Bs (s1:=⟨e,A0 C0 C1 s (Cj d 10)⟩) rfl ?_,hE.step Hg 10 (λk hk=>by simp[PJ]at hk) (λk _ _=>rfl),rfl⟩;simp[AI.step,Opd.ev,v8,v9,A0,De,EX,Cj,hdi,d9,U6,D.copy,D.cells?,AS,D.toRow]
  |i+11,hi=>omega
 ·rintro d ⟨e,h⟩ hall ⟨hE,hh⟩;simp only at hE hh;subst hh;have e1:A0 C0 C1 s d=A0 C0 C1 s (λ_=>true):=by
   simp[A0,De,EX,hall 7 (by decide),hall 9 (by decide),hall 10 (by decide)]
  rw[e1];exact hK e hE.2 (hE.1 9 6 rfl (hall 9 (by decide)) (by intro c hc;simp[HE]at hc))
 ·refine⟨⟨λj k' hj hd=>?_,hse⟩,rfl⟩;simp only[decide_eq_true_eq]at hd;have:PJ[j]?=none:=rG (by simpa[PJ]using hd);rw[this]at hj;cases hj
def ZS:AT:=match ll 43 1 with| .seq _ (.seq _ (.seq (.block _ (.regA _ _ _ t)) _))=>t|_=> .done
def Y2:List (List Nat):=match ll 43 1 with| .seq _ (.seq _ (.seq (.block _ (.regA _ _ c _)) _))=>c|_=>[]
theorem Vp:(lG 43 1)= .seq (.reg (oG 43 19) [1,2,4,6,7,8,64,65,66]) (.seq (.cond (.t 66 false) .skip (.exit 2)) (.seq (.block 3 (.regA (oG 43 20) [1,2,4,6,7,8,64,65] Y2 ZS)) (.reg (oG 43 21) [1,2,4,6,7,8,64,65]))):=(BA 43 1 :)
def Vo:List GI:=lo 43 20
theorem aZ:oG 43 20=Vo:=(AA 43 20 :)
theorem Ty:ZS.chk Vo Y2 (List.range 11)=true:=by kernel_rfl
def Rt:List (Option Nat):=[some 67,some 68,some 69,some 70,some 71,some 72,some 73,some 74,some 75,some 76,none]
def H0:List (Option Nat):=[none,some 8,none,none,none,none,none,none,some 10,none,none]
def Jj:List Nat:=[1,2,4,6,7,8,64,65]
theorem Hh:Uh Rt Jj=true:=by kernel_rfl
def co (s:RS) (ds:List V) (j:Nat):D:=
 match j with
 |0=> .ref 4 8
 |1=> .own 76 2 ds
 |2=> .ref 2 0
 |3=> .v (.int .i64 (Cb s 0))
 |4=> .ref 2 0
 |5=> .v (.int .i64 (Cb s 1))
 |6=> .agg [.v (.int .i64 (Cb s 0)),.v (.int .i64 (Cb s 1))]
 |7=> .own 76 2 [(Bh (Dr s))]
 |8=> .own 76 2 (ds++[(Bh (Dr s))])
 |9=> .ref 4 8
 |_=> .any
def Do (d:Nat→Bool):Nat:=if d 5 then 2 else (if d 3 then 1 else 0)
def DV (s:RS) (ds:List V) (d:Nat→Bool):D:=if d 10 then .own 76 2 (ds++[(Bh (Dr s))]) else if d 1 then .v (.list ds) else .own 76 2 ds
def BR (C0 C1:Row) (c0 c1 c2 c3 c4 c5 c6 c7 c9 c10 c11 c12:D) (J:List Row) (s:RS) (ds:List V) (d:Nat→Bool):List Row:=
 [C0,C1,(Bv s (Do d)).row,.cells [.ref 2 0],.cells [c0,c1,c2,c3,c4,c5,c6,c7,DV s ds d,c9,c10,c11,c12]]++J
def QA (n k:Int) (j:Nat):D:=
 match j with
 |1=> .ref 0 0
 |2=> .ref 1 0
 |4=> .ref 3 0
 |6=> .ref 4 0
 |7=> .ref 5 0
 |8=> .func 110 [.ref 5 0]
 |64=> .v (.int .i64 n)
 |65=> .v (.int .i64 k)
 |_=> .any
theorem mc (C0 C1:Row) (c0 c1 c2 c3 c4 c5 c6 c7 c9 c10 c11 c12:D) (J:List Row) (s:RS) (hB:s.B) (ds:List V) (hds:ds.length≤2^30) (n k:Int)
  (hK:∀e,(∀k'∈Jj,AF e k'=QA n k k')→K ⟨e,BR C0 C1 c0 c1 c2 c3 c4 c5 c6 c7 c9 c10 c11 c12 J s ds (λ_=>true)⟩) (se:CH) (hse:∀k'∈Jj,AF se k'=QA n k k'):
  ZS.ok Tryz.prog An (oG 43 20) K ⟨se,BR C0 C1 c0 c1 c2 c3 c4 c5 c6 c7 c9 c10 c11 c12 J s ds (λj=>decide (11≤j))⟩:=by
 rw[aZ];refine GU (λd st=>EnvD Rt H0 Jj (co s ds) (QA n k) d st.e∧st.h=BR C0 C1 c0 c1 c2 c3 c4 c5 c6 c7 c9 c10 c11 c12 J s ds d) Ty ?_ ?_ ?_
 ·rintro d i ⟨e,h⟩ hi hdi hdep hup ⟨hE,hh⟩;simp only at hE hh;subst hh;have b4:AF e 4= .ref 3 0:=hE.2 4 (by simp[Jj]);have b6:AF e 6= .ref 4 0:=hE.2 6 (by simp[Jj])
  match i,hi with
  |0,_=>
   exact⟨_,Ay (v:= .ref 4 8) rfl (by simp[PI.val,Opd.ev,b6]),hE.push Hh 0 67 rfl rfl,by simp[BR,Do,DV,Cj]⟩
  |9,_=>
   exact⟨_,Ay (v:= .ref 4 8) rfl (by simp[PI.val,Opd.ev,b6]),hE.push Hh 9 76 rfl rfl,by simp[BR,Do,DV,Cj]⟩
  |1,_=>
   have v0:AF e 67= .ref 4 8:=hE.1 0 67 rfl (hdep 0 (by decide)) (by intro c hc;simp[H0]at hc);have d10:d 10=false:=hup 10 (by decide) (by decide);refine⟨_,Bs (s1:=⟨(68,.own 76 2 ds)::e,BR C0 C1 c0 c1 c2 c3 c4 c5 c6 c7 c9 c10 c11 c12 J s ds (Cj d 1)⟩) rfl ?_,hE.push Hh 1 68 rfl rfl,rfl⟩;simp[AI.step,Opd.ev,v0,BR,Do,DV,Cj,d10,hdi]
  |2,_=>
   exact⟨_,Ay (v:= .ref 2 0) rfl (by simp[PI.val,Opd.ev,b4,BR,D.part,D.copy]),hE.push Hh 2 69 rfl rfl,by simp[BR,Do,DV,Cj]⟩
  |4,_=>
   exact⟨_,Ay (v:= .ref 2 0) rfl (by simp[PI.val,Opd.ev,b4,BR,D.part,D.copy]),hE.push Hh 4 71 rfl rfl,by simp[BR,Do,DV,Cj]⟩
  |3,_=>
   have v2:AF e 69= .ref 2 0:=hE.1 2 69 rfl (hdep 2 (by decide)) (by intro c hc;simp[H0]at hc);have d5:d 5=false:=hup 5 (by decide) (by decide);have hF:FX 45 [.ref 2 0] (BR C0 C1 c0 c1 c2 c3 c4 c5 c6 c7 c9 c10 c11 c12 J s ds d) [.v (.int .i64 (Cb s 0))] ((BR C0 C1 c0 c1 c2 c3 c4 c5 c6 c7 c9 c10 c11 c12 J s ds d).set 2 (Bv s 1).row):=DW (Bv s 0) (Ct hB 0) _ 2 (by simp[BR,Do,hdi,d5]);exact⟨_,Bu (k:=70) (r:= .v (.int .i64 (Cb s 0))) rfl (by simpa[Ar,D.arg,Opd.ev,v2]using hF),hE.push Hh 3 70 rfl rfl,by simp[BR,Do,DV,Cj,hdi,d5]⟩
  |5,_=>
   have v4:AF e 71= .ref 2 0:=hE.1 4 71 rfl (hdep 4 (by decide)) (by intro c hc;simp[H0]at hc);have d3:d 3=true:=hdep 3 (by decide);have hF:FX 45 [.ref 2 0] (BR C0 C1 c0 c1 c2 c3 c4 c5 c6 c7 c9 c10 c11 c12 J s ds d) [.v (.int .i64 (Cb s 1))] ((BR C0 C1 c0 c1 c2 c3 c4 c5 c6 c7 c9 c10 c11 c12 J s ds d).set 2 (Bv s 2).row):=DW (Bv s 1) (Ct hB 1) _ 2 (by simp[BR,Do,hdi,d3]);exact⟨_,Bu (k:=72) (r:= .v (.int .i64 (Cb s 1))) rfl (by simpa[Ar,D.arg,Opd.ev,v4]using hF),hE.push Hh 5 72 rfl rfl,by simp[BR,Do,DV,Cj,hdi,d3]⟩
  |6,_=>
   have v3:AF e 70= .v (.int .i64 (Cb s 0)):=hE.1 3 70 rfl (hdep 3 (by decide)) (by intro c hc;simp[H0]at hc);have v5:AF e 72= .v (.int .i64 (Cb s 1)):=hE.1 5 72 rfl (hdep 5 (by decide)) (by intro c hc;simp[H0]at hc);exact⟨_,Ay (v:= .agg [.v (.int .i64 (Cb s 0)),.v (.int .i64 (Cb s 1))]) rfl (by simp[PI.val,Et,Opd.ev,v3,v5,D.cells?,D.copy,AS]),hE.push Hh 6 73 rfl rfl,by simp[BR,Do,DV,Cj]⟩
  |7,_=>
   have v6:AF e 73= .agg [.v (.int .i64 (Cb s 0)),.v (.int .i64 (Cb s 1))]:=hE.1 6 73 rfl (hdep 6 (by decide)) (by intro c hc;simp[H0]at hc);refine⟨_,Bs (s1:=⟨(74,.own 76 2 [(Bh (Dr s))])::e,BR C0 C1 c0 c1 c2 c3 c4 c5 c6 c7 c9 c10 c11 c12 J s ds d⟩) rfl ?_,hE.push Hh 7 74 rfl rfl,?_⟩
   ·simp[AI.step,IV,D.toV,Opd.ev,v6,Bh,Dr,D.vs?,D.v?,D.copy,V.cells]
   ·simp[BR,Do,DV,Cj]
  |8,_=>
   have v1:AF e 68= .own 76 2 ds:=hE.1 1 68 rfl (hdep 1 (by decide)) (by intro c hc;simp[H0]at hc;subst hc;exact hdi);have v7:AF e 74= .own 76 2 [(Bh (Dr s))]:=hE.1 7 74 rfl (hdep 7 (by decide)) (by intro c hc;simp[H0]at hc);have hroom:AK (ds.length+1) 16=true:=by simp[AK];omega
   refine⟨_,Bs (s1:=⟨(75,.own 76 2 (ds++[(Bh (Dr s))]))::(68,.v (.list ds))::e,BR C0 C1 c0 c1 c2 c3 c4 c5 c6 c7 c9 c10 c11 c12 J s ds d⟩) rfl ?_,hE.pushW Hh 8 75 1 68 rfl rfl rfl rfl,?_⟩
   ·simp[AI.step,Opd.ev,Opd.clear,v1,v7,EG,D.toV,D.copy,Bh,V.cells,hroom,D.v?]
   ·simp[BR,Do,DV,Cj]
  |10,_=>
   have v8:AF e 75= .own 76 2 (ds++[(Bh (Dr s))]):=hE.1 8 75 rfl (hdep 8 (by decide)) (by intro c hc;simp[H0]at hc;subst hc;exact hdi);have v9:AF e 76= .ref 4 8:=hE.1 9 76 rfl (hdep 9 (by decide)) (by intro c hc;simp[H0]at hc);refine⟨_,Bs (s1:=⟨(75,.any)::e,BR C0 C1 c0 c1 c2 c3 c4 c5 c6 c7 c9 c10 c11 c12 J s ds (Cj d 10)⟩) rfl ?_,hE.last Hh 10 8 75 rfl rfl rfl,rfl⟩;simp[AI.step,Opd.ev,v8,v9,BR,Do,DV,Cj,D.copy]
  |i+11,hi=>omega
 ·rintro d ⟨e,h⟩ hall ⟨hE,hh⟩;simp only at hE hh;subst hh;have e1:BR C0 C1 c0 c1 c2 c3 c4 c5 c6 c7 c9 c10 c11 c12 J s ds d=BR C0 C1 c0 c1 c2 c3 c4 c5 c6 c7 c9 c10 c11 c12 J s ds (λ_=>true):=by
   simp[BR,Do,DV,hall 5 (by decide),hall 10 (by decide)]
  rw[e1];exact hK e hE.2
 ·refine⟨⟨λj k' hj hd=>?_,hse⟩,rfl⟩;simp only[decide_eq_true_eq]at hd;have:Rt[j]?=none:=rG (by simpa[Rt]using hd);rw[this]at hj;cases hj
theorem oD (C0 C1:Row) (c0 c1 c2 c3 c4 c5 c6 c7 c9 c10 c11 c12:D) (J:List Row) (s:RS) (hB:s.B) (n:Nat) (hn:n≤2^30):
  awp Tryz.prog An (.loop (lG 43 1)) (λe st=>e= .exit 2∧AF st.e 1= .ref 0 0∧AF st.e 2= .ref 1 0∧AF st.e 4= .ref 3 0∧AF st.e 6= .ref 4 0∧AF st.e 7= .ref 5 0∧AF st.e 8= .func 110 [.ref 5 0]∧
    st.h=[C0,C1,(BX 2 Dr n s).2.row,.cells [.ref 2 0],.cells [c0,c1,c2,c3,c4,c5,c6,c7,.own 76 2 ((BX 2 Dr n s).1.map Bh),c9,c10,c11,c12]]++J)
   ⟨[(1,.ref 0 0),(2,.ref 1 0),(4,.ref 3 0),(6,.ref 4 0),(7,.ref 5 0),(8,.func 110 [.ref 5 0]),(64,.v (.int .i64 n)),(65,.v (.int .i64 0))],[C0,C1,s.row,.cells [.ref 2 0],.cells [c0,c1,c2,c3,c4,c5,c6,c7,.own 76 2 [],c9,c10,c11,c12]]++J⟩:=by
 refine AM n (λk=>⟨[(1,.ref 0 0),(2,.ref 1 0),(4,.ref 3 0),(6,.ref 4 0),(7,.ref 5 0),(8,.func 110 [.ref 5 0]),(64,.v (.int .i64 n)),(65,.v (.int .i64 k))],[C0,C1,(BX 2 Dr k s).2.row,.cells [.ref 2 0],.cells [c0,c1,c2,c3,c4,c5,c6,c7,.own 76 2 ((BX 2 Dr k s).1.map Bh),c9,c10,c11,c12]]++J⟩) (by simp[BX]) ?_;intro k hk;rw[Vp];simp only[Zw,AA 43 19];by_cases h1:k <n
 ·have hw:=Bo k;have hL:=DY 2 Dr k s;have hS:=hB.suf (Bk 2 Dr k s);have hA:=GG 2 Dr k s;generalize BX 2 Dr k s=R at*;simp[h1,AB];rw[CO];refine CT _ (λs hs=>⟨s,.inl rfl,hs⟩) ?_;refine mc C0 C1 c0 c1 c2 c3 c4 c5 c6 c7 c9 c10 c11 c12 J R.2 hS (R.1.map Bh) (by simp;omega) n k (λe he=>?_) _ (by
   intro k' hk';simp only[Jj,qL,qn,or_false]at hk';rcases hk' with rfl|rfl|rfl|rfl|rfl|rfl|rfl|rfl<;>rfl)
  have q:∀k'∈Jj,AF e k'=QA n k k':=he;simp only[Jj,tO,qn,false_implies,implies_true,and_true]at q;obtain⟨q0,q1,q2,q3,q4,q5,q6,q7⟩:=q;simp only[q0,q1,q2,q3,q4,q5,q6,q7,Bm,AA 43 21];simp[QA,hw,BR,Do,DV,hA]
 ·have:k=n:=by omega
  subst this;simp[AJ]
end
theorem isB.encTh:∀t:Th,t.full→(Go.Va.BD t).length≤2^50→isB (Go.Va.BD t):=by
 refine Th.ind λcs vs ps ih hf hb=>?_;obtain⟨h0,h1,h2,h3,h4,h5⟩:=hf;rw[Go.Va.BD,D6]at hb ⊢;simp only[qG]at hb;refine(isB.encInts h0 (by omega)).app ((isB.encI (by unfold i64;omega)).app ((isB.flat λx hx=>?_).app ((isB.encI (by unfold i64;omega)).app (isB.flat λp hp=>ih p hp (h5 p hp) ?_))))
 ·exact(isB.encI (h4 x hx).1).app ((isB.encI (h4 x hx).2.1).app (isB.encI (h4 x hx).2.2))
 ·obtain⟨a,b,rfl⟩:=List.append_of_mem hp;simp only[rP,qN,qG]at hb;omega
theorem isB.encPf {L R S:List Int} (hL:∀n∈L,u64 n) (hR:∀n∈R,u64 n) (hS:isB S) (lL:L.length≤2^60) (lR:R.length≤2^60) (lS:S.length≤2^60):isB (Go.Va.Cp L R S):=
 (isB.encRaw hS lS).app (((isB.encI (by unfold i64;omega)).app (isB.flat λx hx=>isB.uvar (hL x hx).1 (hL x hx).2)).app ((isB.encI (by unfold i64;omega)).app (isB.flat λx hx=>isB.uvar (hR x hx).1 (hR x hx).2)))
section
variable (RW:Row) (H:List Row)
theorem mq (a b c d:Int) (ha:i64 a) (hb:i64 b) (hc:i64 c) (hd:i64 d) (d4:D) (Q:AExit→St→Prop)
  (hQ:∀e,AF e 1= .ref 0 0→AF e 4=d4→AF e 6= .ref 1 0→Q (.exit 0) ⟨e,[RW,wr ([a,b,c,d].flatMap AN)]⟩):
  awp Tryz.prog An (.loop (lG 41 0)) Q ⟨[(1,.ref 0 0),(4,d4),(6,.ref 1 0),(32,.own 3 1 [.int .i64 a,.int .i64 b,.int .i64 c,.int .i64 d]),(33,.v (.int .i64 4)),(34,.v (.int .i64 0))],[RW,wr []]⟩:=by
 refine AM 4 (λk=>⟨[(1,.ref 0 0),(4,d4),(6,.ref 1 0),(32,.own 3 1 [.int .i64 a,.int .i64 b,.int .i64 c,.int .i64 d]),(33,.v (.int .i64 4)),(34,.v (.int .i64 k))],[RW,wr (([a,b,c,d].take k).flatMap AN)]⟩) (by simp) ?_;intro k hk;simp only[Zw,BA 41 0,AA 41 6];have hk5:k=0∨k=1∨k=2∨k=3∨k=4:=by omega
 have e1:=AO a;have e2:=AO b;have e3:=AO c;rcases hk5 with rfl|rfl|rfl|rfl|rfl
 ·simp[AB];simp only[AA 41 7,AA 41 8];simp;refine⟨_,_,(MN a ha _ 1 [] rfl (by simp)),?_⟩;simp[AA 41 9];rfl
 ·simp[AB];simp only[AA 41 7,AA 41 8];simp;refine⟨_,_,(MN b hb _ 1 (AN a) rfl (by omega)),?_⟩;simp[AA 41 9];rfl
 ·simp[AB];simp only[AA 41 7,AA 41 8];simp;refine⟨_,_,(MN c hc _ 1 (AN a++AN b) rfl (by rw[qG];omega)),?_⟩;simp[AA 41 9];rfl
 ·simp[AB];simp only[AA 41 7,AA 41 8];simp;refine⟨_,_,(MN d hd _ 1 (AN a++(AN b++AN c)) rfl (by simp only[qG];omega)),?_⟩;simp[AA 41 9];rfl
 ·simp at hQ;simp[AJ];exact hQ _ rfl rfl rfl
theorem mm (rs:List Rgt) (hr:∀r∈rs,r.ok) (hB:∀r∈rs,isB (Bg r)) (hn:rs.length≤2^30) (ys:List Int) (hb:ys.length≤2^43) (hb2:(rs.flatMap Ex).length≤2^40) (Q:AExit→St→Prop)
  (hE:rs.all Ag=false→∀e J,AF e 2= .own 5 1 []→AF e 3= .v (.int .i64 1)→Q .ret ⟨e,J⟩)
  (hQ:rs.all Ag=true→∀e J,AF e 1= .ref 0 0→AF e 6= .ref 1 0→Q (.exit 2) ⟨e,RW::wr (ys++rs.flatMap Ex)::J⟩):
  awp Tryz.prog An (.loop (lG 41 1)) Q ⟨[(1,.ref 0 0),(6,.ref 1 0),(48,.v (.list (rs.map Rgt.V))),(49,.v (.int .i64 rs.length)),(50,.v (.int .i64 0))],RW::wr ys::H⟩:=by
 refine Al rs.length (λk s=>∃J,s=⟨[(1,.ref 0 0),(6,.ref 1 0),(48,.v (.list (rs.map Rgt.V))),(49,.v (.int .i64 rs.length)),(50,.v (.int .i64 k))],RW::wr (ys++(rs.take k).flatMap Ex)::J⟩∧(rs.take k).all Ag=true) ⟨H,by simp,by simp⟩ ?_;rintro k s hk ⟨J,rfl,hI⟩;simp only[Zw,BA 41 1,AA 41 13];simp;by_cases h1:k <rs.length
 ·obtain⟨x,hx⟩:∃x,rs[k]?=some x:=⟨_,qH h1⟩;have hxm:=qJ hx;have hg:rs[k]=x:=by rw[qH h1]at hx;exact re hx
  have hw:=Bo k;have q:=(oR x (hr x hxm)).fsp;have hlen:((rs.take (k+1)).flatMap Ex).length≤(rs.flatMap Ex).length:=by
   conv=>rhs;rw[←rJ (k+1) rs]
   rw[rP,qG];omega
  have hft:=Av (f:=Ex) h1;have hxl:(Bg x).length≤(Ex x).length:=by unfold Ex AY;rw[qG];omega
  rw[hft,hg,qG]at hlen;rw[if_pos (by omega),AB];have hV:∃v1 v2 v3 v4 v5 v6 v7 v8,x.V= .agg [v1,v2,v3,v4,v5,v6,v7,v8]:=⟨_,_,_,_,_,_,_,_,rfl⟩;have hF:(rs.take (k+1)).all Ag=Ag x:=by
   rw[qc,hx,List.all_append,hI];simp
  have hF2:Ag x=false→rs.all Ag=false:=λh=>by rw[List.all_eq_false];exact⟨x,hxm,by simp[h]⟩
  generalize Ag x=b at*;obtain⟨v1,v2,v3,v4,v5,v6,v7,v8,hV⟩:=hV;rw[hV]at q;simp only[AA 41 14,AA 41 15];simp[hx,hV,AS];refine⟨_,_,q _,?_⟩;simp only[AA 41 16];cases b with
  |true=>
   simp[AB];simp only[AA 41 18];simp;refine⟨_,_,(cP (Bg x) (hB x hxm) (by omega) _ 1 (ys++(rs.take k).flatMap Ex) rfl (by rw[qG];omega)),?_⟩;simp[h1,hw,AA 41 19,-List.length_flatMap];refine⟨?_,by simpa using hF⟩;rw[hft,hg];rfl
  |false=>
   simp[AA 41 17,AD];exact hE (hF2 rfl) _ _ rfl rfl
 ·have hk2:k=rs.length:=by omega
  subst hk2;rw[if_neg (by omega),AJ];simp only[qm]at hI ⊢;exact hQ hI _ _ rfl rfl
theorem mj (cl:List (Int×Int)) (hc:∀c∈cl,i64 c.1∧i64 c.2) (hn:cl.length≤2^30) (ys:List Int) (hb:ys.length≤2^43) (Q:AExit→St→Prop)
  (hQ:∀e J,AF e 1= .ref 0 0→AF e 6= .ref 1 0→Q (.exit 4) ⟨e,RW::wr (ys++cl.flatMap H4)::J⟩):
  awp Tryz.prog An (.loop (lG 41 2)) Q ⟨[(1,.ref 0 0),(6,.ref 1 0),(70,.v (.list (cl.map Bh))),(71,.v (.int .i64 cl.length)),(72,.v (.int .i64 0))],RW::wr ys::H⟩:=by
 have fl:∀l:List (Int×Int),(l.flatMap H4).length≤20*l.length:=by
  intro l;induction l with
  |nil=>simp
  |cons x l ih=>
   have:=AO x.1;have:=AO x.2;simp only[qN,qG,qT,H4];omega
 refine Al cl.length (λk s=>∃J,s=⟨[(1,.ref 0 0),(6,.ref 1 0),(70,.v (.list (cl.map Bh))),(71,.v (.int .i64 cl.length)),(72,.v (.int .i64 k))],RW::wr (ys++(cl.take k).flatMap H4)::J⟩) ⟨H,by simp⟩ ?_;rintro k s hk ⟨J,rfl⟩;simp only[Zw,BA 41 2,AA 41 22];simp;by_cases h1:k <cl.length
 ·obtain⟨x,hx⟩:∃x,cl[k]?=some x:=⟨_,qH h1⟩;have hg:cl[k]=x:=by rw[qH h1]at hx;exact re hx
  have hw:=Bo k;obtain⟨x1,x2⟩:=hc x (qJ hx);have hf:=fl (cl.take k);have ht:(cl.take k).length≤2^30:=by simp;omega
  have e1:=AO x.1;rw[if_pos (by omega),AB];simp only[AA 41 23,AA 41 24];simp[hx,Bh,AS];refine⟨_,_,(MN x.1 x1 _ 1 (ys++(cl.take k).flatMap H4) rfl (by rw[qG];omega)),?_⟩;simp only[AA 41 25];simp[-List.length_flatMap];refine⟨_,_,(MN x.2 x2 _ 1 (ys++((cl.take k).flatMap H4++AN x.1)) rfl (by simp only[qG];omega)),?_⟩;simp[h1,hw,AA 41 26,-List.length_flatMap];rw[Av h1,hg];simp[H4]
 ·have hk2:k=cl.length:=by omega
  subst hk2;rw[if_neg (by omega),AJ];simp only[qm];exact hQ _ _ rfl rfl
end
theorem oU (x:Ext) (hx:x.fit) (hB:∀r∈x.rs,isB (Bg r)):PX 41 [x.V] [AH .u8 (if Fa x=0 then DP x else []),.int .i64 (Fa x)]:=by
 refine BU 41 ?_;have hall:=hx.all;unfold DP at hall;have h4:([x.kind,x.file,x.party,x.day].flatMap AN).length≤40:=Au _;simp only[qG]at hall;have hraw:(BD x.t).length≤(AY (BD x.t)).length:=by unfold AY;rw[qG];omega
 have hpf:(Cp x.L x.R x.S).length≤(AY (Cp x.L x.R x.S)).length:=by unfold AY;rw[qG];omega
 have q1:=(o8 x.t hx.t (by omega)).fsp;have q3:=(mM x.L x.R x.S hx.L hx.R hx.S (by have:=hx.lL;omega) (by have:=hx.lR;omega) (by have:=hx.lS;omega)).fsp;have kr:i64 (x.rs.length:Int):=by have:=hx.lr;unfold i64;omega
 have kc:i64 (x.cl.length:Int):=by have:=hx.lc;unfold i64;omega
 have bT:=isB.encTh x.t hx.t (by omega);have bP:=isB.encPf hx.L hx.R hx.S (by have:=hx.lL;omega) (by have:=hx.lR;omega) (by have:=hx.lS;omega);obtain⟨hkd,hf,hp,hd,ht,hrs,hlr,hcl,hlc,hfs,hlf,hL,hR,hS,hlL,hlR,hlS,-⟩:=hx;unfold Fa DP;generalize BD x.t=TB at*;generalize Cp x.L x.R x.S=PB at*;generalize F5 x.t=E at*;obtain⟨kind,file,party,day,⟨cs,vs,ps⟩,rs,cl,fs,L,R,S⟩:=x;simp only[Ext.V,Ext.cs,Th.V_eq,Th.cs,Th.vs,Th.ps,AH]at*;obtain⟨G,hG⟩:∃G,[kind,file,party,day].flatMap AN++(AY TB++(AN rs.length++(rs.flatMap Ex++(AN cl.length++(cl.flatMap H4++(Ah fs++AY PB))))))=G:=⟨_,rfl⟩;obtain⟨A,hA⟩:∃A,rs.all Ag=A:=⟨_,rfl⟩;rw[hG,hA];simp only[Zw,At 41,AA 41 0,AA 41 1,AV];simp at q1 q3 ⊢;refine⟨_,_,q1 _,?_⟩;simp only[AA 41 2];by_cases hE:E=0
 ·subst hE;simp[AB];simp only[AA 41 4,AA 41 5];simp;obtain⟨RW,hRW⟩:∃RW,Ig (.v (.int .i64 kind)) (.v (.int .i64 file)) (.v (.int .i64 party)) (.v (.int .i64 day)) (.v (AH .i64 cs)) (.v (.list (vs.map Val.V))) (.v (.list (ps.map Th.V))) (.v (AH .i64 fs)) (.v (AH .u64 L)) (.v (AH .u64 R)) (.v (AH .u8 S)) rs cl=RW:=⟨_,rfl⟩;have hRW2:=hRW;simp only[Ig,AH]at hRW2;rw[hRW2];refine mq RW kind file party day hkd hf hp hd _ _ ?_;intro e f1 f4 f6;simp;rw[←hRW2];simp only[AA 41 10];simp[f1,f4,f6];have e1:=AO kind;have e2:=AO file;have e3:=AO party;have e4:=AO day;have l5:=AO rs.length;have l6:=AO cl.length;refine⟨_,_,(cP TB bT (by omega) _ 1 (AN kind++(AN file++(AN party++AN day))) rfl (by simp only[qG];omega)),?_⟩;simp only[AA 41 11];simp;refine⟨_,_,(MN rs.length kr _ 1 (AN kind++(AN file++(AN party++(AN day++AY TB)))) rfl (by simp only[qG];omega)),?_⟩;simp only[AA 41 12];simp;rw[hRW2];have q5:=mm RW [] rs hrs hB hlr (AN kind++(AN file++(AN party++(AN day++(AY TB++AN rs.length))))) (by simp only[qG];omega) (by omega);rw[hA]at q5;refine q5 _ ?_ ?_
  ·rintro rfl e J f2 f3;simp[f2,f3,AX 41]
  ·rintro rfl e J f1 f6;simp;rw[←hRW2];simp only[AA 41 20];simp[f1,f6,-List.length_flatMap];refine⟨_,_,(MN cl.length kc _ 1 (AN kind++(AN file++(AN party++(AN day++(AY TB++(AN rs.length++rs.flatMap Ex)))))) rfl (by simp only[qG];omega)),?_⟩;simp only[AA 41 21];simp[-List.length_flatMap];rw[hRW2];refine mj RW _ cl hcl hlc (AN kind++(AN file++(AN party++(AN day++(AY TB++(AN rs.length++(rs.flatMap Ex++AN cl.length))))))) (by simp only[qG];omega) _ ?_;intro e J f1 f6;simp;rw[←hRW2];simp only[AA 41 27];simp[f1,f6,-List.length_flatMap];refine⟨_,_,(Ub fs hfs (by omega) _ 1 (AN kind++(AN file++(AN party++(AN day++(AY TB++(AN rs.length++(rs.flatMap Ex++(AN cl.length++cl.flatMap H4)))))))) rfl (by simp only[qG];omega)),?_⟩;simp only[AA 41 28];simp[-List.length_flatMap];refine⟨_,_,q3 _,?_⟩;simp[-List.length_flatMap];refine⟨_,_,(cP PB bP (by omega) _ 1 (AN kind++(AN file++(AN party++(AN day++(AY TB++(AN rs.length++(rs.flatMap Ex++(AN cl.length++(cl.flatMap H4++Ah fs))))))))) rfl (by simp only[qG];omega)),?_⟩;simp only[AA 41 29];simp[-List.length_flatMap];refine⟨_,_,(Sp _ 1 (AN kind++(AN file++(AN party++(AN day++(AY TB++(AN rs.length++(rs.flatMap Ex++(AN cl.length++(cl.flatMap H4++(Ah fs++AY PB)))))))))) rfl (by simp only[qG];omega)),?_⟩;simp[AD,AX 41,←hG,-List.length_flatMap]
 ·simp[hE,AD,AA 41 3,AX 41]
end Go.Va
