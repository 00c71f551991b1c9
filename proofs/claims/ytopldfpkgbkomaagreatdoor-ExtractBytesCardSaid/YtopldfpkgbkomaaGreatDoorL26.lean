/- Laws that ExtractBytes leans on, part 26. No condition of its own. -/
import Derived.Test.YtopldfpkgbkomaaGreatDoorL23
set_option linter.all false
set_option maxRecDepth 100000
set_option maxHeartbeats 4000000
noncomputable section
namespace Go.Va
open Go.Proofs
theorem Ly {f:F} (h:f.rd):(By f).length≤3000*f.size:=by
 unfold By;refine EJ f.nodes λg hg=>?_;have h1:=(h g hg).2;have e1:=AO g.op;have e2:=AO g.n;have e3:=AO (g.ins.length:Int);have e4:=AO (g.kids.length:Int);have e5:=EJ (f:=Ce) (m:=90) g.ins λx _=>by
  have h1:=Au [x.ln,x.ld,x.hn,x.hd,E4 x.lo,E4 x.ho,E4 x.li,E4 x.hi];have h2:=Aw (([x.ln,x.ld,x.hn,x.hd,E4 x.lo,E4 x.ho,E4 x.li,E4 x.hi].length:Nat):Int);simp only[Ce,Ah,qG];simp only[qT,ra]at h1;omega
 simp only[C7,qG];omega
def iS:F:= .mk 0 0 [] []
def Ug:Option F→List V
 |some f=>[f.V,.int .i64 0]
 |none=>[iS.V,.int .i64 2]
theorem dU (b:List Int) (hB:∀x∈b,0≤x∧x <256) (hl:b.length≤2^43):PX 282 [AH .u8 b] (Ug (Xb b)):=by
 refine BU 282 ?_;obtain⟨k1,-,k3⟩:=Pz 97 (b,0) 96 hB;have hR:=UJ 97 (b,0) 96 [.cells [.v (.int .i64 0),.v (.int .i64 0),.own 368 8 [],.own 84 4 []],Fq b,.cells [.v (.int .i64 96)]] 1 2 (by simp) (by simp) (by decide) (by
  intro row hrow;simp only[qL,qn,or_false]at hrow;rcases hrow with rfl|rfl|rfl<;>rfl) hB (by simp only;omega) (by decide) (by decide) (by decide) rfl rfl
 obtain⟨G,hG⟩:∃G,Ug (Xb b)=G:=⟨_,rfl⟩;rw[hG];unfold Xb at hG;generalize dF 97 (b,0) 96=x at*;obtain⟨f,s,l⟩:=x;simp only at k1 k3 hR hG;have q116:=λ(X1 X3 X4:Row)=>La s [X1,s.row,X3,X4] 1 rfl;have q1:0≤l→_:=λh=>(de f ⟨λg hg=>(k1 g hg).1,by have:=k3 h;omega⟩ (by have:=Ly k1;have:=k3 h;omega)).fsp;have q2:0≤l→_:=λh=>(YW (By f) b (by have:=Ly k1;have:=k3 h;omega)).fsp;obtain⟨c0,c1,c2,c3,hV⟩:∃a b c d,f.V= .agg [a,b,c,d]:=by
  cases f;exact⟨_,_,_,_,F.V_eq _ _ _ _⟩
 have hz:iS.V= .agg [.int .i64 0,.int .i64 0,.list [],.list []]:=by simp[iS,F.V_eq]
 simp only[Ug,hV,hz]at hR q1 hG;simp at hR;generalize By f=E at*;generalize Bt f=e at*;simp only[At 282,AE,AG,AL,AA 282 0,AA 282 1,AV];simp;refine⟨_,_,(Zg b (by omega) _),?_⟩;simp only[AA 282 2];simp[AS];simp only[AA 282 3];simp;refine⟨_,_,hR,?_⟩;simp[AS,D.toRow];simp only[AA 282 4];by_cases h0:l <0
 ·simp[h0]at hG;subst hG;simp[h0];simp only[AA 282 5];simp[AS,AD,AX 282,Bw,D.vs?,D.v?]
 ·have q1:=q1 (by omega);have q2:=q2 (by omega);simp[h0];refine⟨_,_,(q116 _ _ _),?_⟩;by_cases he:Fk s=0
  ·simp[he,AB];simp only[AA 282 6];simp[D.vs?,D.v?];refine⟨_,_,q1 _,?_⟩;simp only[AA 282 7];by_cases hf:e=0
   ·subst hf;simp[D.v?];refine⟨_,_,q2 _,?_⟩;by_cases hb:E=b
    ·simp[h0,he,hb,hV]at hG;subst hG;simp[hb];simp only[AA 282 9];simp[AS,D.toRow,D.vs?,D.v?,AD,AX 282,Bw]
    ·simp[h0,he,hb]at hG;subst hG;simp[hb];simp only[AA 282 8];simp[AS,AD,AX 282,Bw,D.vs?,D.v?]
   ·simp[h0,he,hf]at hG;subst hG;simp[hf];simp only[AA 282 8];simp[AS,AD,AX 282,Bw,D.vs?,D.v?]
  ·simp[he]at hG;subst hG;simp[he];simp only[AA 282 5];simp[AS,AD,AX 282,Bw,D.vs?,D.v?]
def MZ:Option (List Clm)→List V
 |some l=>[.list (l.map Clm.V),.int .i64 0]
 |none=>[.list [],.int .i64 2]
theorem gV (N:Nat) (hN:N≤32) (b:V):∀(k:Nat) (s:RS) (l:List Clm) (J:List Row),l.length+k=N→s.B→s.1.length≤2^43→
  awp Tryz.prog An (.loop (lG 205 0)) (λe st=>(∀y,Tl k s=some y→e= .exit 0∧AF st.e 0= .v b∧AF st.e 4= .ref 0 0∧AF st.e 5= .v (.int .i64 N)∧AF st.e 6= .own 130 5 ((l++y.1).map Clm.V)∧∃J,st.h=y.2.row::J)∧
    (Tl k s=none→e= .ret∧AF st.e 2= .own 130 5 []∧AF st.e 3= .v (.int .i64 2)))
   ⟨[(0,.v b),(4,.ref 0 0),(5,.v (.int .i64 N)),(6,.own 130 5 (l.map Clm.V)),(7,.v (.int .i64 l.length))],s.row::J⟩:=by
 intro k;induction k with
 |zero=>
  intro s l J hl hB hsl;refine Aa ?_;simp only[Zw,BA 205 0,AA 205 5];have h1:¬((l.length:Int) <N):=by omega
  simp[h1,AJ,Tl]
 |succ k ih=>
  intro s l J hl hB hsl;have h1:l.length <N:=by omega
  have hN2:(N:Int)≤32:=by omega
  have q1:=λJ=>M1 s hB (by omega) (s.row::J) 0 rfl;have b1:=hB.suf (BN s);have l1:=(BN s).length_le;have q2:=λJ=>M2 (Am s).2 b1 (by omega) ((Am s).2.row::J) 0 rfl;have b2:=b1.suf (CL (Am s).2);have l2:=(CL (Am s).2).length_le;have l3:=DZ (Am s).2;have q3:=(dU (Bl (Am s).2).1 (FU b1) (by omega)).fsp;have ih:=λl' J' h=>ih (Bl (Am s).2).2 l' J' h b2 (by omega);have hw:IntKind.i64.wrap ((l.length:Int)+1)=l.length+1:=AQ;have hroom:AK (l.length+1) 88=true:=by simp[AK];omega
  rw[Tl];simp only[List.set_cons_zero]at q1 q2;generalize (Am s).1=refs at*;generalize (Am s).2=s1 at*;generalize (Bl s1).1=raw at*;generalize (Bl s1).2=s2 at*;generalize Xb raw=F at*;cases F with
  |none=>
   refine Aa ?_;simp only[Ug,iS,F.V_eq]at q3;simp at q3;simp only[Zw,BA 205 0,AA 205 5];simp[h1,hN2,AB];simp only[AA 205 7];simp;refine⟨_,_,(q1 _),?_⟩;simp[AS,D.toRow];simp only[AA 205 8];simp;refine⟨_,_,(q2 _),?_⟩;simp;refine⟨_,_,q3 _,?_⟩;simp[AS,D.toRow];simp only[AA 205 9];simp;simp only[AA 205 10];simp[AD]
  |some f=>
   obtain⟨op,n,ins,kids⟩:=f;have ih:=λJ'=>ih (l++[⟨refs,.mk op n ins kids⟩]) J' (by simp;omega);simp only[Ug,F.V_eq]at q3;simp at q3;simp only[qg,tN,qh,qR,rW,qG,qT,ra,rt,rQ,Clm.V,F.op,F.n,F.ins,F.kids]at ih;refine A5 (s1:=⟨[(0,.v b),(4,.ref 0 0),(5,.v (.int .i64 N)),(6,.own 130 5 (l.map Clm.V++[.agg [AH .i64 refs,.int .i64 op,.int .i64 n,.list (ins.map Ivl.V),.list (kids.map F.V)]])),(7,.v (.int .i64 (l.length+1)))],s2.row::(J++[.cells [.v (AH .i64 refs),.v (.int .i64 op),.v (.int .i64 n),.v (.list (ins.map Ivl.V)),.v (.list (kids.map F.V))],.cells [.v (.int .i64 op),.v (.int .i64 n),.v (.list (ins.map Ivl.V)),.v (.list (kids.map F.V))]])⟩) ?_ ?_
   ·simp only[Zw,BA 205 0,AA 205 5];simp[h1,hN2,AB];simp only[AA 205 7];simp;refine⟨_,_,(q1 _),?_⟩;simp[AS,D.toRow];simp only[AA 205 8];simp;refine⟨_,_,(q2 _),?_⟩;simp;refine⟨_,_,q3 _,?_⟩;simp[AS,D.toRow];simp only[AA 205 9];simp;simp only[AA 205 11];simp[AS,D.toRow];simp only[AA 205 12];simp[D.vs?,D.v?,hroom];simp only[AA 205 6];simp[hw,AH]
   ·refine AZ _ ?_ (ih _);rintro e st ⟨g1,g2⟩;refine⟨λy hy=>?_,λhy=>?_⟩
    ·obtain⟨y',hy',rfl⟩:=qQ.1 hy;simpa[Clm.V,F.op,F.n,F.ins,F.kids]using g1 y' hy'
    ·exact g2 (Option.map_eq_none_iff.1 hy)
theorem gU (N:Int) (hN:N <0∨32 <N) (b:V) (s:RS):
  awp Tryz.prog An (.loop (lG 205 0)) (λe st=>e= .exit 0∧AF st.e 0= .v b∧AF st.e 4= .ref 0 0∧AF st.e 5= .v (.int .i64 N)∧AF st.e 6= .own 130 5 []∧st.h=[s.row])
   ⟨[(0,.v b),(4,.ref 0 0),(5,.v (.int .i64 N)),(6,.own 130 5 []),(7,.v (.int .i64 0))],[s.row]⟩:=by
 refine Aa ?_;simp only[Zw,BA 205 0,AA 205 5];by_cases h1:0 <N
 ·have h2:¬N≤32:=by omega
  simp[h1,h2,AJ]
 ·simp[h1,AJ]
theorem dj (b:List Int) (hB:∀x∈b,0≤x∧x <256) (hl:b.length≤2^30):PX 205 [AH .u8 b] (MZ (Hz b)):=by
 refine BU 205 ?_;have b0:RS.B (b,0):=hB;have q0:=DW (b,0) b0 [RS.row (b,0)] 0 rfl;have b1:=b0.suf (Af (b,0));have l1:=(Af (b,0)).length_le;obtain⟨G,hG⟩:∃G,MZ (Hz b)=G:=⟨_,rfl⟩;rw[hG];unfold Hz at hG;have hr:RS.row (b,0)=Fq b:=rfl;simp only[List.set_cons_zero,hr]at q0 l1 hG;obtain⟨bv,hbv⟩:∃bv,AH .u8 b=bv:=⟨_,rfl⟩;have q44:=Zg b (by omega) [];have q283:=λxs (h:xs.length≤2^45)=>(YW xs b h).fsp;rw[hbv]at q44 q283 ⊢;have hd:=λ(N:Nat) (hN:N≤32) (hk:(Ad (b,0)).1=N)=>gV N hN bv N (Ad (b,0)).2 [] [] (by simp) b1 (by omega);have hok:=λ(N:Nat) y=>Q4 N (Ad (b,0)).2 y b1 (by omega);generalize Ad (b,0)=n at*;simp only[Zw,At 205,AA 205 0,AA 205 1,AV];simp;refine⟨_,_,q44,?_⟩;simp only[AA 205 2];simp;refine⟨_,_,q0,?_⟩;simp only[AA 205 3];simp;simp only[AA 205 4];simp;by_cases hN:n.1 <0∨32 <n.1
 ·rw[if_pos hN]at hG;simp only[MZ]at hG;subst hG;refine AZ _ ?_ (gU n.1 hN bv n.2);rintro e ⟨se,sh⟩ ⟨rfl,f0,f4,f5,f6,hh⟩;simp only at f0 f4 f5 f6 hh;subst hh;have q:=La n.2 [n.2.row] 0 rfl;simp;simp only[AA 205 13];simp[f4];refine⟨_,_,q,?_⟩;by_cases he:Fk n.2=0
  ·have hne:¬(0:Int)=n.1:=by omega
   simp[he,hne,f5,f6];simp only[AA 205 14];simp[AD,AX 205,Bw]
  ·simp[he];simp only[AA 205 14];simp[AD,AX 205,Bw]
 ·rw[if_neg hN]at hG;obtain⟨N,hNN⟩:∃N:Nat,n.1=N:=⟨n.1.toNat,by omega⟩;have hd:=hd N (by omega) hNN;have hok:=hok N;rw[hNN]at hG ⊢;rw[qt]at hG;simp only[rW,ra,Int.natCast_zero,sX]at hd;refine AZ _ ?_ hd;rintro e ⟨se,sh⟩ ⟨g1,g2⟩;cases hy:Tl N n.2 with
  |none=>
   obtain⟨rfl,f2,f3⟩:=g2 hy;rw[hy]at hG;simp[MZ]at hG;subst hG;simp only at f2 f3;simp[f2,f3,AX 205,Bw]
  |some y=>
   obtain⟨rfl,f0,f4,f5,f6,J,hh⟩:=g1 y hy;simp only at f0 f4 f5 f6 hh;subst hh;obtain⟨o1,o2,o3⟩:=hok y hy;rw[hy]at hG;simp only[qp]at hG;obtain⟨l,s⟩:=y;simp only at o1 o2 o3 hG f6;have q:=La s (s.row::J) 0 rfl;have henc:(A8 l).length≤2^39:=by
    have h1:=EJ (m:=11*n.2.1.length+20) l λc hc=>(o1 c hc).2;have h2:=AO (l.length:Int);have h3:(11*n.2.1.length+20)*l.length≤(11*n.2.1.length+20)*32:=tf _ (by omega);unfold A8;rw[qG];omega
   have q1:=(eC l (λc hc=>(o1 c hc).1) (by omega) henc).fsp;have q2:=q283 (A8 l) (by omega);generalize A8 l=E at*;generalize CV l=e at*;simp;simp only[AA 205 13];simp[f4];refine⟨_,_,q,?_⟩;by_cases he:Fk s=0
   ·have hlen:(l.length:Int)=N:=by omega
    simp[he,hlen,f0,f5,f6,AB];simp only[AA 205 15];simp;refine⟨_,_,q1 _,?_⟩;simp;simp only[AA 205 16];by_cases hf:e=0
    ·subst hf;simp;refine⟨_,_,q2 _,?_⟩;by_cases hb:E=b
     ·simp[he,hb,MZ]at hG;subst hG;simp[hb];simp only[AA 205 18];simp[AD,AX 205,Bw]
     ·simp[he,hb,MZ]at hG;subst hG;simp[hb];simp only[AA 205 17];simp[AD,AX 205,Bw]
    ·simp[he,hf,MZ]at hG;subst hG;simp[hf];simp only[AA 205 17];simp[AD,AX 205,Bw]
   ·simp[he,MZ]at hG;subst hG;simp[he];simp only[AA 205 14];simp[AD,AX 205,Bw]
theorem L9:∀ {xs ys:List Int},(∀x∈xs,0≤x∧x <256)→(∀x∈ys,0≤x∧x <256)→(xs.map (λn=>UInt8.ofNat n.toNat)=ys.map (λn=>UInt8.ofNat n.toNat)↔xs=ys)
 |[],[],_,_=>by simp
 |[],_::_,_,_=>by simp
 |_::_,[],_,_=>by simp
 |x::xs,y::ys,hx,hy=>by
  have h1:=hx x (by simp);have h2:=hy y (by simp);have ih:=L9 (xs:=xs) (ys:=ys) (λz hz=>hx z (by simp[hz])) (λz hz=>hy z (by simp[hz]));simp only[qR,List.cons.injEq,ih]
  constructor
  ·rintro⟨h3,h4⟩;refine⟨?_,h4⟩;have h5:=congrArg UInt8.toNat h3;rw[UInt8.toNat_ofNat_of_lt' (by simp[UInt8.size];omega),UInt8.toNat_ofNat_of_lt' (by simp[UInt8.size];omega)]at h5;omega
  ·rintro⟨rfl,h4⟩;exact⟨rfl,h4⟩
def cQ:Rgt:=⟨0,0,0,[],[],[],[],[]⟩
def Nl:Option Rgt→List V
 |some r=>[r.V,.int .i64 0]
 |none=>[cQ.V,.int .i64 2]
theorem eK (b:List Int) (hB:∀x∈b,0≤x∧x <256) (hl:b.length≤2^30):PX 113 [AH .u8 b] (Nl (dR b)):=by
 refine BU 113 ?_;have b0:RS.B (b,0):=hB;obtain⟨G,hG⟩:∃G,Nl (dR b)=G:=⟨_,rfl⟩;have hok:=λ(cl:List Clm) (hcl:Hz (Bl (Bv (b,0) 3)).1=some cl) c hc N1 n1 ds hds bad hbad N2 n2 os hos N3 n3 ls hls=>VU hB hl hcl (c:=c) hc (N1:=N1) n1 (ds:=ds) hds (bad:=bad) hbad (N2:=N2) n2 (os:=os) hos (N3:=N3) n3 (ls:=ls) hls;rw[hG];have hd:=hG;unfold dR at hd;simp only at hd;have b3:=Ct b0 3;have l3:=(Gc (b,0) 3).length_le;simp only at l3;have i0:=Be b0 0;have i1:=Be b0 1;have i2:=Be b0 2;obtain⟨C0,hC0⟩:∃C,C=Row.cells [.v (AH .u8 b)]:=⟨_,rfl⟩;obtain⟨C1,hC1⟩:∃C,C=Row.cells [.v (.int .i64 0),.v (.int .i64 0),.v (.int .i64 0),.own 130 5 [],.own 88 4 [],.own 3 1 [],.own 246 3 [],.own 247 4 []]:=⟨_,rfl⟩;have hrow:([C0,C1,Fq b,.cells [.ref 2 0]]:List Row)=Br C0 C1 (b,0) (λj=>decide (9≤j)):=rfl;have hrow2:Br C0 C1 (b,0) (λ_=>true)=[C0,C1,(Bv (b,0) 3).row,.cells [.ref 2 0],.cells [.v (.int .i64 (Cb (b,0) 0)),.v (.int .i64 (Cb (b,0) 1)),.v (.int .i64 (Cb (b,0) 2)),.own 130 5 [],.own 88 4 [],.own 3 1 [],.own 246 3 [],.own 247 4 []]]:=rfl;simp only[Xm,AE,AG,AA 113 0,AA 113 1,AA 113 2,AV];simp;refine⟨_,_,(Zg b (by omega) _),?_⟩;simp[AS];rw[CO];refine CT _ (λs hs=>⟨s,.inl rfl,hs⟩) ?_;rw[←hC0,←hC1,hrow];refine Z5 C0 C1 (b,0) b0 (λe he h6=>?_) _ (by
  intro k' hk';simp only[Iy,qL,qn,or_false]at hk';rcases hk' with rfl|rfl|rfl|rfl<;>rfl)
 simp only[Iy,tO,qn,false_implies,implies_true,and_true,OK]at he;obtain⟨f1,f2,f4,f5⟩:=he;simp only[Bm,f1,f2,f4,f5,h6];rw[hrow2,Vz];generalize Cb (b,0) 0=v0 at*;generalize Cb (b,0) 1=v1 at*;generalize Cb (b,0) 2=v2 at*;generalize Bv (b,0) 3=s3 at*;have q112:=λJ=>M2 s3 b3 (by omega) ([C0,C1,s3.row,.cells [.ref 2 0]]++J) 2 rfl;have b4:=b3.suf (CL s3);have l4:=(CL s3).length_le;have q205:=(dj (Bl s3).1 (FU b3) (by have:=DZ s3;omega)).fsp;have hcc:Bl s3=((Bl s3).1,(Bl s3).2):=rfl;generalize hraw:(Bl s3).1=raw at*;generalize hs4:(Bl s3).2=s4 at*;simp only[Zw,AA 113 4];simp;refine⟨_,_,(q112 [_]),?_⟩;simp
 replace hok:=λcl hcl=>hok cl hcl (raw,s4) hcc
 cases hcl:Hz raw with
 |none=>
  rw[hcl]at q205 hd;simp[MZ]at q205;simp[Nl,cQ,Rgt.V,Rgt.cs,AH]at hd;subst hd;refine⟨_,_,q205 _,?_⟩;simp;simp only[AA 113 5];simp;simp only[AA 113 6];simp[hC1,AS,D.vs?,D.v?,AD,AX 113,Bw]
 |some cl=>
  rw[hcl]at q205 hd;simp[MZ]at q205;simp only[qp]at hd;refine⟨_,_,q205 _,?_⟩;simp;simp only[AA 113 5];simp[AB];simp only[AA 113 7];simp[AS,D.toRow];simp only[AA 113 8];simp;have m:=λh s hB a c d=>dl h 3 0 2 (b.map (.int .u8)) s hB a c d (by decide);simp only[qr]at m;obtain⟨N1,hN1⟩:∃N:Nat,CI b.length s4=N:=⟨(CI b.length s4).toNat,by have:=DT b.length s4;omega⟩;have n1:=DT b.length s4;have b5:=b4.suf (Af s4);have l5:=(Af s4).length_le
  replace hok:=hok cl hcl
  have m1:=m [C0,C1,s4.row,.cells [.ref 2 0],.cells [.v (.int .i64 v0),.v (.int .i64 v1),.v (.int .i64 v2),.v (.list (cl.map Clm.V)),.own 88 4 [],.own 3 1 [],.own 246 3 [],.own 247 4 []]] s4 b4 rfl (by rw[hC0];rfl) rfl
  replace hok:=hok N1 hN1
  rw[hN1]at m1 n1 hd;rw[qt]at hd;simp only[List.set_cons_succ,List.set_cons_zero]at m1;refine⟨_,_,m1,?_⟩;simp only at hok;generalize (Ad s4).2=s5 at*;have hD:=bA C0 C1 (.v (.int .i64 v0)) (.v (.int .i64 v1)) (.v (.int .i64 v2)) (.v (.list (cl.map Clm.V))) (.own 3 1 []) (.own 246 3 []) (.own 247 4 []) s5 b5 N1 (by omega);have b6:=b5.suf (Bk 4 BP N1 s5);have l6:=(Bk 4 BP N1 s5).length_le
  replace hok:=hok (BX 4 BP N1 s5) rfl (Am (BX 4 BP N1 s5).2) rfl
  generalize BX 4 BP N1 s5=ds at*;refine Ei hD ?_;simp only[AA 113 12];simp;have q114:=λX=>M1 ds.2 b6 (by omega) [C0,C1,ds.2.row,.cells [.ref 2 0],X] 2 rfl;have b7:=b6.suf (BN ds.2);have l7:=(BN ds.2).length_le;simp only[List.set_cons_succ,List.set_cons_zero]at q114;generalize Am ds.2=bad at*;refine⟨_,_,(q114 _),?_⟩;simp;simp only[AA 113 13];simp;obtain⟨N2,hN2⟩:∃N:Nat,CI b.length bad.2=N:=⟨(CI b.length bad.2).toNat,by have:=DT b.length bad.2;omega⟩;have n2:=DT b.length bad.2;have b8:=b7.suf (Af bad.2);have l8:=(Af bad.2).length_le;have m2:=m [C0,C1,bad.2.row,.cells [.ref 2 0],.cells [.v (.int .i64 v0),.v (.int .i64 v1),.v (.int .i64 v2),.v (.list (cl.map Clm.V)),.own 88 4 (ds.1.map Dat.V),.own 3 1 (bad.1.map (.int .i64)),.own 246 3 [],.own 247 4 []]] bad.2 b7 rfl (by rw[hC0];rfl) rfl
  replace hok:=hok N2 hN2 (BX 3 Bf N2 (Ad bad.2).2) rfl
  rw[hN2]at m2 n2 hd;rw[qt]at hd;simp only[List.set_cons_succ,List.set_cons_zero]at m2;refine⟨_,_,m2,?_⟩;have hO:=a9 C0 C1 (.v (.int .i64 v0)) (.v (.int .i64 v1)) (.v (.int .i64 v2)) (.v (.list (cl.map Clm.V))) (.own 88 4 (ds.1.map Dat.V)) (.own 3 1 (bad.1.map (.int .i64))) (.own 247 4 []) (Ad bad.2).2 b8 N2 (by omega);have b9:=b8.suf (Bk 3 Bf N2 (Ad bad.2).2);have l9:=(Bk 3 Bf N2 (Ad bad.2).2).length_le;generalize BX 3 Bf N2 (Ad bad.2).2=os at*;generalize (Ad bad.2).2=s8 at*;refine Ei hO ?_;simp only[AA 113 17];simp;obtain⟨N3,hN3⟩:∃N:Nat,CI b.length os.2=N:=⟨(CI b.length os.2).toNat,by have:=DT b.length os.2;omega⟩;have n3:=DT b.length os.2;have b10:=b9.suf (Af os.2);have l10:=(Af os.2).length_le;have m3:=m [C0,C1,os.2.row,.cells [.ref 2 0],.cells [.v (.int .i64 v0),.v (.int .i64 v1),.v (.int .i64 v2),.v (.list (cl.map Clm.V)),.own 88 4 (ds.1.map Dat.V),.own 3 1 (bad.1.map (.int .i64)),.own 246 3 (os.1.map Own.V),.own 247 4 []]] os.2 b9 rfl (by rw[hC0];rfl) rfl
  replace hok:=hok N3 hN3 (BX 4 Bp N3 (Ad os.2).2) rfl
  rw[hN3]at m3 n3 hd;rw[qt]at hd;simp only[List.set_cons_succ,List.set_cons_zero]at m3;refine⟨_,_,m3,?_⟩;have hL:=a8 C0 C1 (.v (.int .i64 v0)) (.v (.int .i64 v1)) (.v (.int .i64 v2)) (.v (.list (cl.map Clm.V))) (.own 88 4 (ds.1.map Dat.V)) (.own 3 1 (bad.1.map (.int .i64))) (.own 246 3 (os.1.map Own.V)) (Ad os.2).2 b10 N3 (by omega);generalize BX 4 Bp N3 (Ad os.2).2=ls at*;generalize (Ad os.2).2=s10 at*;refine Ei hL ?_;simp only[AA 113 21];simp;have hend:=λX=>La ls.2 [C0,C1,ls.2.row,.cells [.ref 2 0],X] 2 rfl;refine⟨_,_,(hend _),?_⟩;by_cases hz:Fk ls.2=0
  ·obtain⟨r,hr⟩:∃r:Rgt,r=⟨v0,v1,v2,cl,ds.1,bad.1,os.1,ls.1⟩:=⟨_,rfl⟩;rw[←hr]at hok hd;have q51:=(oR r hok).fsp;have hV:r.V= .agg [.int .i64 v0,.int .i64 v1,.int .i64 v2,.list (cl.map Clm.V),.list (ds.1.map Dat.V),.list (bad.1.map (.int .i64)),.list (os.1.map Own.V),.list (ls.1.map Lic.V)]:=by rw[hr];rfl
   rw[hV]at q51;have hBE:Ag r=true→∀x∈Bg r,0≤x∧x <256:=λ_=>isB.encR r hok;generalize Bg r=E at*;generalize Ag r=fm at*;simp[hz];simp only[AA 113 23];simp[D.vs?,D.v?];refine⟨_,_,q51 _,?_⟩;simp;simp only[AA 113 24];cases fm with
   |true=>
    have s1:=Cu E (hBE rfl);have s2:=Cu b hB;have s3:=L9 (hBE rfl) hB;simp[hC0,AH,s1,s2,s3];by_cases hb:E=b
    ·simp[hz,hb,Nl,hV]at hd;subst hd;simp[hb];simp only[AA 113 26];simp[hC1,AS,D.toRow,D.vs?,D.v?,AD,AX 113,Bw]
    ·simp[hz,hb,Nl,cQ,Rgt.V,Rgt.cs,AH]at hd;subst hd;simp[hb];simp only[AA 113 25];simp[hC1,AS,D.vs?,D.v?,AD,AX 113,Bw]
   |false=>
    simp[hz,Nl,cQ,Rgt.V,Rgt.cs,AH]at hd;subst hd;simp;simp only[AA 113 25];simp[hC1,AS,D.vs?,D.v?,AD,AX 113,Bw]
  ·simp[hz,Nl,cQ,Rgt.V,Rgt.cs,AH]at hd;subst hd;simp[hz];simp only[AA 113 22];simp[hC1,AS,D.vs?,D.v?,AD,AX 113,Bw]
end Go.Va
