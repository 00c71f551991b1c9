/- Laws that ExtractAnswers leans on, part 29. No condition of its own. -/
import Derived.Test.YtopldfpkgbkomaaGreatDoorL23
import Derived.Test.YtopldfpkgbkomaaGreatDoorL24
set_option linter.all false
set_option maxRecDepth 100000
set_option maxHeartbeats 4000000
noncomputable section
namespace Go.Va
open Go.Proofs
open Go.Proofs
def I6:Int→Int→Bool:=CO JN.length Rq
section
variable (l l2:List Int)
theorem Mv {r:Rgt} (h:r∈Ht (Aj l)):r∈Aj l:=(Hc (Dj l)).mem_iff.1 h
theorem EF:(Aj l).length≤4:=by
 have h1:=pG Aw ((List.range (Ae l 0 5).toNat).map (Cp l));have h2:=EU l 0 5 (by decide);rw[oi,rn]at h1;unfold Aj;omega
theorem UX:(Ht (Aj l)).length≤4:=by rw[(Hc (Dj l)).length_eq];exact EF l
theorem N7:∀r∈Ht (Aj l),PX 113 [AH .u8 (Be r)] [r.V,.int .i64 0]:=by
 intro r hr;have hm:=Mv l hr;have ht:=BN hm;obtain⟨_,_,hf⟩:=EE hm;have hc:=DF hm;exact jh r (ht.ok (by decide)) hf hc.z (by have:=hc.n;omega) (Hm ht (by decide)) (NY ht (by decide))
theorem KN:∀r∈Ht (Aj l),∀i:Int,0≤i→i <r.claims.length→PX 274 [.list (r.claims.map Clm.V),.int .i64 i] [(Ar r.claims i).V,.int .i64 0]:=by
 intro r hr i h0 hi;obtain⟨k,rfl⟩:∃k:Nat,i=k:=⟨i.toNat,by omega⟩;exact Zm (DF (Mv l hr)) k (by omega)
theorem eE:∀r∈Aj l,∀i:Int,0≤i→i <r.claims.length→PX 24 [.list (r.claims.map Clm.V),.int .i64 i] [.list ((Bm r.claims i).map F.V),.int .i64 0]:=by
 intro r hr i h0 hi;obtain⟨k,rfl⟩:∃k:Nat,i=k:=⟨i.toNat,by omega⟩;exact gj (DF hr) k (by omega)
theorem Y5:∀r∈Aj l,∀i:Int,0≤i→i <r.claims.length→Rv 6 (Bm r.claims i):=by
 intro r hr i h0 hi;obtain⟨k,rfl⟩:∃k:Nat,i=k:=⟨i.toNat,by omega⟩;exact(DF hr).alts k (by omega)
theorem Kb:JN.length=6:=rfl
end
structure Ext where
 (kind file party day:Int)
 t:Th
 rs:List Rgt
 cl:List (Int×Int)
 fs:List Int
 (L R S:List Int)
def Ext.cs (x:Ext):List V:=[.int .i64 x.kind,.int .i64 x.file,.int .i64 x.party,.int .i64 x.day,AH .i64 x.t.cs,.list (x.t.vs.map Val.V),.list (x.t.ps.map Th.V),.list (x.rs.map Rgt.V),.list (x.cl.map Bn),AH .i64 x.fs,AH .u64 x.L,AH .u64 x.R,AH .u8 x.S]
def Ext.V (x:Ext):V:= .agg x.cs
structure Rgt.sm (r:Rgt):Prop where
 h1:r.claims.length≤2^30
 h2:∀c∈r.claims,c.refs.length≤2^40∧c.body.sm
 h3:r.dates.length≤2^30
 h4:r.bad.length≤2^40
 h5:r.owners.length≤2^30
 h6:r.lics.length≤2^30
structure Ext.sm (x:Ext):Prop where
 t:x.t.ok
 rs:∀r∈x.rs,r.sm
 lr:x.rs.length≤2^30
 cl:x.cl.length≤2^30
 fs:x.fs.length≤2^40
 L:x.L.length≤2^40
 R:x.R.length≤2^40
 S:x.S.length≤2^40
theorem nM (x:Ext) (hx:x.sm):PX 29 [x.V,x.V] [.bool true]:=by
 refine BJ 29 ?_;have q1:=(mj x.t hx.t).fsp;have q2:=(mg x.cl (pA hx.cl (by decide))).fsp;have q3:=(mf x.L x.R x.S hx.L hx.R hx.S).fsp;have q4:=eT x.fs hx.fs;have q5:=λr hr=>mm r (pA (hx.rs r hr).h1 (by decide)) (hx.rs r hr).h2 (pA (hx.rs r hr).h3 (by decide)) (hx.rs r hr).h4 (pA (hx.rs r hr).h5 (by decide)) (pA (hx.rs r hr).h6 (by decide));have hlr:=hx.lr;clear hx;obtain⟨kind,file,party,day,⟨cs,vs,ps⟩,rs,cl,fs,L,R,S⟩:=x;simp only[Th.V_eq,M1,AH,Ext.V,Ext.cs,Th.cs,Th.vs,Th.ps]at*;simp at q1 q2 q3;simp only[Zw,Ai 29,AA 29 0,AA 29 1,AX];simp[AD,AA 29 3]
 let h0:List D:=[.v (.int .i64 kind),.v (.int .i64 file),.v (.int .i64 party),.v (.int .i64 day),.v (.list (cs.map (.int .i64))),.v (.list (vs.map Val.V)),.v (.list (ps.map Th.V)),.v (.list (rs.map Rgt.V)),.v (.list (cl.map Bn)),.v (.list (fs.map (.int .i64))),.v (.list (L.map (.int .u64))),.v (.list (R.map (.int .u64))),.v (.list (S.map (.int .u8)))]
 refine AN rs.length (λk=>⟨[(2,.ref 0 0),(3,.ref 1 0),(5,.v (.int .i64 k))],[.cells h0,.cells h0]⟩) (by simp[h0]) ?_;intro k hkl;simp only[Zw,A8 29 0,AA 29 4,h0];by_cases h1:k <rs.length
 ·obtain⟨x,hx⟩:∃x,rs[k]?=some x:=⟨_,oI h1⟩;have w1:=Bb k;have h2:(k:Int) <rs.length:=by omega
  have qx:=q5 x (oK hx);simp only[Rgt.V,Rgt.cs,AH]at qx;simp[h2,AD];simp only[AS,AA 29 6];simp[hx,Rgt.V,Rgt.cs,AH];refine⟨_,_,⟨rfl,rfl⟩,_,qx,?_⟩;simp[AA 29 5,w1,h1]
 ·have hk2:k=rs.length:=by omega
  subst hk2;simp[AJ];simp only[AA 29 8];simp;refine⟨_,_,q1 _,?_⟩;simp only[AA 29 9];simp;refine⟨_,_,q2 _,?_⟩;simp only[AA 29 10];simp;refine⟨_,_,q3 _,?_⟩;simp only[AA 29 11];simp;refine⟨_,_,q4.fsp _,?_⟩;simp[AB,AW 29]
theorem nw:CL Tryz.prog Ah 83 1 (cM 131 135 137) dX=true:=by kernel_rfl
def Ext.row (x:Ext):Row:= .cells (x.cs.map .v)
def Ext.mkR (x:Ext) (rs:List Rgt) (cl:List (Int×Int)):Row:=
 .cells [.v (.int .i64 x.kind),.v (.int .i64 x.file),.v (.int .i64 x.party),.v (.int .i64 x.day),.v (AH .i64 x.t.cs),.v (.list (x.t.vs.map Val.V)),.v (.list (x.t.ps.map Th.V)),.own 32 8 (rs.map Rgt.V),.own 186 2 (cl.map Bn),.v (AH .i64 x.fs),.v (AH .u64 x.L),.v (AH .u64 x.R),.v (AH .u8 x.S)]
theorem bP (x:Ext) (hn:x.rs.length≤2^30) (h83:∀r∈x.rs,PX 83 [r.V] [r.V]) (R1:Row):
  awp Tryz.prog Ah (.loop (lG 30 0)) (λe s=>e= .exit 0∧AG s.e 1= .ref 0 0∧AG s.e 2= .ref 1 0∧AG s.e 3= .ref 2 0∧s.h=[x.row,R1,x.mkR x.rs []])
   ⟨[(1,.ref 0 0),(2,.ref 1 0),(3,.ref 2 0),(4,.v (.int .i64 0))],[x.row,R1,x.mkR [] []]⟩:=by
 refine AN x.rs.length (λk=>⟨[(1,.ref 0 0),(2,.ref 1 0),(3,.ref 2 0),(4,.v (.int .i64 k))],[x.row,R1,x.mkR (x.rs.take k) []]⟩) (by simp) ?_;intro k hk;simp only[Zw,A8 30 0,AA 30 3];simp[Ext.row,Ext.cs];by_cases hlt:k <x.rs.length
 ·obtain⟨r,hxk⟩:∃r,x.rs[k]?=some r:=⟨_,oI hlt⟩;have hw:=Bb k;have hroom:AU (k+1) 144=true:=by simp[AU];omega
  have hm:min k x.rs.length=k:=by omega
  have e:=C6 hxk Rgt.V;have q:=h83 r (oK hxk);simp only[Rgt.V,Rgt.cs,AH]at q;rw[if_pos (by omega),AD];simp only[AS,AA 30 5];simp[hxk,Rgt.V,Rgt.cs,Ext.mkR,AH];refine⟨_,_,⟨rfl,rfl⟩,_,q,?_⟩;simp[hm,hroom];simp[AA 30 4,hw,hlt,e,Rgt.V,Rgt.cs,AH]
 ·have:k=x.rs.length:=by omega
  subst this;rw[if_neg (by omega),AJ];simp
theorem bN (x:Ext) (hn:x.cl.length≤2^30) (R1:Row):
  awp Tryz.prog Ah (.loop (lG 30 1)) (λe s=>e= .exit 2∧AG s.e 1= .ref 0 0∧AG s.e 2= .ref 1 0∧AG s.e 3= .ref 2 0∧s.h=[x.row,R1,x.mkR x.rs x.cl])
   ⟨[(1,.ref 0 0),(2,.ref 1 0),(3,.ref 2 0),(5,.v (.int .i64 0))],[x.row,R1,x.mkR x.rs []]⟩:=by
 refine AN x.cl.length (λk=>⟨[(1,.ref 0 0),(2,.ref 1 0),(3,.ref 2 0),(5,.v (.int .i64 k))],[x.row,R1,x.mkR x.rs (x.cl.take k)]⟩) (by simp) ?_;intro k hk;simp only[Zw,A8 30 1,AA 30 7];simp[Ext.row,Ext.cs];by_cases hlt:k <x.cl.length
 ·obtain⟨r,hxk⟩:∃r,x.cl[k]?=some r:=⟨_,oI hlt⟩;have hw:=Bb k;have hroom:AU (k+1) 16=true:=by simp[AU];omega
  have hm:min k x.cl.length=k:=by omega
  have e:=C6 hxk Bn;rw[if_pos (by omega),AD];simp only[AS,AA 30 9];simp[hxk,Bn,Ext.mkR,AH,AO,hm,hroom];simp[AA 30 8,hw,hlt,e,Bn]
 ·have:k=x.cl.length:=by omega
  subst this;rw[if_neg (by omega),AJ];simp
theorem nK (x:Ext) (h1:x.rs.length≤2^30) (h2:x.cl.length≤2^30) (h83:∀r∈x.rs,PX 83 [r.V] [r.V]):PX 30 [x.V] [x.V]:=by
 refine BJ 30 ?_;have q0:=λR1=>bP x h1 h83 R1;have q1:=λR1=>bN x h2 R1;simp only[Ext.mkR,Ext.row,Ext.cs,pf]at q0 q1;simp only[Ai 30,AE,AF,AM,AA 30 0,AA 30 1,AX];simp[Ext.V,Ext.cs,AO,AA 30 2];refine Ad _ ?_ (q0 _);rintro e ⟨se,sh⟩ ⟨rfl,f1,f2,f3,hh⟩;simp only at f1 f2 f3 hh;subst hh;simp[AA 30 6,f1,f2,f3];refine Ad _ ?_ (q1 _);rintro e ⟨se,sh⟩ ⟨rfl,f1,f2,f3,hh⟩;simp only at f1 f2 f3 hh;subst hh;simp[AA 30 10,f2,f3,AB,AW 30,D.vs?,D.v?,AO,AH]
section
variable {J:List Row}
theorem Lows.both {K:List Row} (h:Lows J) (k:Lows K):Lows (J++K):=λrow hr n=>by
 rcases oc.1 hr with hr|hr
 ·exact h row hr n
 ·exact k row hr n
section
variable (l l2:List Int)
end
end
end Go.Va
