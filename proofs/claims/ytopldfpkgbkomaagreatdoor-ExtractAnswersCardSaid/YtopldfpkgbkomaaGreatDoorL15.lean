/- Laws that ExtractAnswers leans on, part 15. No condition of its own. -/
import Derived.Test.YtopldfpkgbkomaaGreatDoorL09
set_option linter.all false
set_option maxRecDepth 100000
set_option maxHeartbeats 4000000
noncomputable section
namespace Go.Va
open Go.Proofs
section
theorem Em (n:Int):i64 (IntKind.i64.wrap n):=by
 have h1:=Int.emod_nonneg n (b:=18446744073709551616) (by decide);have h2:=Int.emod_lt_of_pos n (b:=18446744073709551616) (by decide);unfold IntKind.wrap i64;simp only[IntKind.bits,IntKind.signed];have e1:((2:Int)^64)=18446744073709551616:=by decide
 have e2:((2:Int)^(64-1))=9223372036854775808:=by decide
 simp only[e1,e2,pB,decide_eq_true_eq,ge_iff_le];split<;>omega
theorem SE (b n:Int) (hn:0 <n): -n <b.tmod n∧b.tmod n <n:=by
 have h1:=rM b hn;have h2:=rM (-b) hn;rw[Int.neg_tmod]at h2;omega
theorem HZ (b n:Int) (hn:0 <n) (h:n≤2^40):i64 (b.tmod n):=by have:=SE b n hn;unfold i64;omega
theorem Sk (l:List Int) (i n:Int) (hn:0 <n) (h:n≤2^40):i64 (Ae l i n):=by have:=EU l i n hn;unfold i64;omega
structure F.tiny (m:Nat) (f:F):Prop where
 one:∀g∈f.nodes,g.ok1∧g.ins.length≤1
 len:f.nodes.length≤m
 size:f.size≤m
theorem F.tiny.ok {m:Nat} {f:F} (h:f.tiny m) (hm:m≤2^20):f.ok:=⟨λg hg=>(h.one g hg).1,by have:=h.size;omega⟩
theorem Kj {α:Type} {f:α→List Int} (c:Nat):∀l:List α,(∀x∈l,(f x).length≤c)→(l.flatMap f).length≤c*l.length
 |[],_=>by simp
 |x::l,h=>by
  have h1:=h x (by simp);have h2:=Kj c l λy hy=>h y (by simp[hy]);simp only[oZ,oL,oj,rN];omega
theorem GK (l:List Int):(A6 l).length≤10+10*l.length:=by
 have h1:=CV l.length;have h2:=B8 l;rw[A6,oL];omega
variable {m:Nat}
theorem F.tiny.enc {f:F} (h:f.tiny m):(BS f).length≤200*m:=by
 have key:=Kj (f:=Cd) 200 f.nodes λg hg=>by
  have h1:=(h.one g hg).2;have h2:=Kj (f:=Bv) 100 g.ins λx _=>by
   have:=GK [x.ln,x.ld,x.hn,x.hd,Fw x.lo,Fw x.ho,Fw x.li,Fw x.hi];simp only[oj,qP]at this;exact pA this (by decide)
  have:=Ab g.op;have:=Ab g.n;have:=Ab g.ins.length;have:=Ab g.kids.length;simp only[Cd,oL];omega
 have:=h.len;have:200*f.nodes.length≤200*m:=rm _ this;exact pA key this
theorem FS (k:Int):(Cq k).tiny 1:=by
 refine⟨?_,by simp[Cq,F.nodes_eq],by simp[Cq,F.size_eq]⟩;simp only[Cq,F.nodes_eq,rO,oS,forall_eq,F.ok1,F.op,F.n,F.ins];exact⟨⟨by unfold i64;omega,HZ _ _ (by decide) (by decide),by simp,by simp⟩,by simp⟩
theorem J6 (k:Int):(DH k).tiny 1:=by
 refine⟨?_,by simp[DH,F.nodes_eq],by simp[DH,F.size_eq]⟩;simp only[DH,F.nodes_eq,rO,oS,forall_eq,F.ok1,F.op,F.n,F.ins];exact⟨⟨by unfold i64;omega,HZ _ _ (by decide) (by decide),⟨HZ _ _ (by decide) (by decide),by simp[i64],Em _,by simp[i64]⟩,by simp⟩,by simp⟩
theorem Ha {op:Int} {kids:List F} (ho:i64 op) (hk:∀k∈kids,k.tiny m):(F.mk op 0 [] kids).tiny (1+m*kids.length):=by
 have s:∀l:List F,(∀k∈l,k.tiny m)→(l.flatMap F.nodes).length≤m*l.length∧(l.map F.size).sum≤m*l.length:=by
  intro l;induction l with
  |nil=>simp
  |cons x l ih=>
   intro h;have h1:=h x (by simp);have h2:=ih λk hk=>h k (by simp[hk]);have:=h1.len;have:=h1.size;simp only[oZ,oL,oj,oV,qL,rN];omega
 have s1:=s kids hk;refine⟨?_,by rw[F.nodes_eq,oj];omega,by rw[F.size_eq];omega⟩;intro g hg;rw[F.nodes_eq]at hg;rcases oO.1 hg with rfl|hg
 ·exact⟨⟨ho,by simp[F.n,i64],by simp[F.ins],by simp[F.ins]⟩,by simp[F.ins]⟩
 ·obtain⟨k,hk1,hk2⟩:=pP.1 hg;exact(hk k hk1).one g hk2
variable {n:Nat}
theorem F.tiny.mono {f:F} (h:f.tiny m) (hn:m≤n):f.tiny n:=⟨h.one,pA h.len hn,pA h.size hn⟩
theorem J5 (n:Int):(DR n).tiny 3:=by
 unfold DR;generalize An n 1048576=k;have o:∀n:Int,0≤n→n≤6→i64 n:=λn h1 h2=>by unfold i64;omega
 simp only
 repeat' split
 ·exact(FS k).mono (by decide)
 ·exact(J6 k).mono (by decide)
 ·exact(Ha (m:=1) (o _ (by decide) (by decide)) (by simp[FS,J6])).mono (by simp)
 ·exact(Ha (m:=1) (o _ (by decide) (by decide)) (by simp[FS])).mono (by simp)
 ·exact(Ha (m:=1) (o _ (by decide) (by decide)) (by simp[FS])).mono (by simp)
structure Clm.tiny (c:Clm):Prop where
 refs:∀n∈c.refs,i64 n
 lr:c.refs.length≤2
 body:c.body.tiny 7
theorem Clm.tiny.ok {c:Clm} (h:c.tiny):c.ok:=⟨h.refs,by have:=h.lr;omega,h.body.ok (by decide)⟩
theorem HP (l:List Int) (i:Nat) (hi:i≤3):(GO l i).tiny:=by
 unfold GO;generalize Ae l (2*i+1) 1000=k;generalize Ae l (2*i+2) 1048576=m;refine⟨?_,?_,?_⟩
 ·simp only;split
  ·simp[i64]
  ·split
   ·rename_i h;simp only[oS,forall_eq];exact HZ _ _ (by omega) (by omega)
   ·simp
 ·simp only;split
  ·simp
  ·split<;>simp
 ·simp only;split
  ·exact(Ha (m:=3) (by unfold i64;omega) (by simp[J5])).mono (by simp)
  ·exact(J5 m).mono (by decide)
structure Rgt.tiny (m:Nat) (r:Rgt):Prop where
 file:i64 r.file
 state:i64 r.state
 force:i64 r.force
 claims:∀c∈r.claims,c.tiny
 dates:∀d∈r.dates,d.ok
 bad:∀n∈r.bad,i64 n
 owners:∀o∈r.owners,o.ok
 lics:∀h∈r.lics,h.ok
 lc:r.claims.length≤m
 ld:r.dates.length≤m
 lb:r.bad.length≤m
 lo:r.owners.length≤m
 ll:r.lics.length≤m
theorem Rc {c:Clm} (h:c.tiny):(BL c).length≤1500:=by
 have h1:=GK c.refs;have h2:=h.lr;have h3:=h.body.enc;have h4:=CV (BS c.body).length;simp only[BL,BE,oL];omega
theorem GM {l:List Clm} (h:∀c∈l,c.tiny):(BB l).length≤10+1500*l.length:=by
 have h1:=Kj (f:=BL) 1500 l λc hc=>Rc (h c hc);have h2:=Ab l.length;simp only[BB,oL];omega
theorem Rgt.tiny.ok {m:Nat} {r:Rgt} (h:r.tiny m) (hm:m≤2^20):r.ok:=by
 have:=h.lc;have:=h.ld;have:=h.lb;have:=h.lo;have:=h.ll;have:=GM h.claims;exact⟨h.file,h.state,h.force,λc hc=>(h.claims c hc).ok,h.dates,h.bad,h.owners,h.lics,by omega,by omega,by omega,by omega,by omega,by omega⟩
theorem PQ (l:List Int):(D7 l).tiny 3:=by
 have hc:=KF l;have hp:=EU l 8 3 (by decide);have o:∀i n:Int,0 <n→n≤2^40→i64 (Ae l i n):=λi n=>Sk l i n;refine⟨o 0 40 (by decide) (by decide),o 1 5 (by decide) (by decide),?_,?_,?_,?_,?_,?_,hc,?_,?_,?_,?_⟩
 ·simp only[D7];split
  ·exact o 3 5 (by decide) (by decide)
  ·simp[i64]
 ·intro c h;simp only[D7,B9,oP,oy]at h;obtain⟨i,hi,rfl⟩:=h;have:=Iu l;exact HP l i (by omega)
 ·intro d h;simp only[D7,oP,oy]at h;obtain⟨i,hi,rfl⟩:=h;exact⟨by simp only[Re];unfold i64;omega,HZ _ _ (by decide) (by decide),Em _,HZ _ _ (by decide) (by decide)⟩
 ·intro n h;simp only[D7,List.mem_filterMap,oy,L7]at h;obtain⟨i,hi,h⟩:=h;split at h
  ·simp only[oH]at h;subst h;unfold i64;omega
  ·simp at h
 ·intro w h;simp only[D7,oP,oy]at h;obtain⟨i,hi,rfl⟩:=h;exact⟨Em _,by simp[Sq,i64],o 8 3 (by decide) (by decide)⟩
 ·intro w h;simp only[D7,List.mem_filterMap,oy,NH]at h;obtain⟨i,hi,h⟩:=h;split at h
  ·simp only[oH]at h;subst h;exact⟨Em _,Em _,o (9+i) 1000 (by decide) (by decide),Em _⟩
  ·simp at h
 ·simp only[D7,oi,rn];exact hc
 ·have:=qG (L7 l) (List.range (B9 l).length);simp only[D7];rw[rn]at this;omega
 ·simp only[D7,oi,rn];omega
 ·have:=qG (NH l) (List.range (Ae l 8 3).toNat);simp only[D7];rw[rn]at this;omega
end
theorem PZ (l:List Int) (hi:∀n∈l,i64 n) (hn:l.length≤2^30) (h:List Row) (w:Nat) (xs:List Int) (hw:h[w]?=some (wr xs)) (hb:xs.length≤2^44):
  FX 129 [.v (AH .i64 l),.ref w 0] h [] (h.set w (wr (xs++l.flatMap AZ))):=by
 refine Dh 129 ?_;obtain⟨HH,hHH⟩:∃HH,h.set w (wr (xs++l.flatMap AZ))=HH:=⟨_,rfl⟩;rw[hHH];simp only[Ai 129,AE,AF,AM,AA 129 0,AQ];simp[AH];refine AN l.length (λk=>⟨[(1,.ref w 0),(5,.v (AH .i64 l)),(6,.v (.int .i64 l.length)),(7,.v (.int .i64 k))],h.set w (wr (xs++(l.take k).flatMap AZ))⟩) ?_ ?_
 ·have:h.set w (wr xs)=h:=by
   obtain⟨g1,g2⟩:=oM.1 hw;rw[←g2,sU]
  simp[AH,this]
 intro k hk;simp only[Zw,A8 129 0,AA 129 1];simp[AH];by_cases h1:k <l.length
 ·have hx:l[k]?=some l[k]:=oI h1;have hww:=Bb k;have hf:=B8 (l.take k);have ht:(l.take k).length=k:=by simp;omega
  rw[if_pos (by omega),AD];simp only[AA 129 2,AA 129 3];simp[hx];refine⟨_,_,(XN l[k] (hi _ (pR h1)) (h.set w (wr (xs++(l.take k).flatMap AZ))) w _ (CQ hw) (by rw[oL];omega)),?_⟩;simp[AA 129 4,hww,h1];rw[BT h1]
 ·have:k=l.length:=by omega
  subst this;rw[if_neg (by omega),AJ];simp[AW 129,hHH]
theorem Pa (r:Rgt) (hr:r.ok):PX 128 [r.V] [.bool (Aw r)]:=by
 refine BJ 128 ?_;obtain⟨R,hR⟩:∃R,Aw r=R:=⟨_,rfl⟩;rw[hR];unfold Aw at hR;have hlc:=hr.lc;have hld:=hr.ld;have hll:=hr.ll;have p1:=(KQ r.file 0 4095).fsp;have p2:=(KQ r.state 0 4).fsp;have p3:=(KQ r.force 0 4).fsp;have p4:=(XU r.claims hr.claims (by omega)).fsp;have p5:=λ(h:List Row) (q:Nat) (hq:h[q]?=some (.cells [.v (.int .i64 r.claims.length)])) (hl:Low h)=>
  iV r.dates (Ga r.claims.length) (.func 218 [.ref q 0]) 218 [.ref q 0] (FV.r 218 q 0 []) rfl rfl h hl (by simp[D.lt,D.lts];exact Cg hq) (by omega) λx _ H h1 h2=>iU x r.claims.length H q (h2 q _ hq) ⟨by omega,by omega⟩ h1
 have p6:=(iT r.dates (by omega)).fsp;have p7:=λ(h:List Row) (q:Nat) (hq:h[q]?=some (.cells [.v (.int .i64 r.claims.length)])) (hl:Low h)=>
  iR r.bad (λi=>Dl i 0 (r.claims.length-1)) (.func 222 [.ref q 0]) 222 [.ref q 0] (FV.r 222 q 0 []) rfl rfl h hl (by simp[D.lt,D.lts];exact Cg hq) (by have:=hr.lb;omega) λx _ H h1 h2=>iQ x r.claims.length H q (h2 q _ hq) ⟨by omega,by omega⟩
 have p8:=(iO r.bad (by have:=hr.lb;omega)).fsp;have p9:=λ(h:List Row) (hl:Low h)=>iL r.owners E8 (.v (.func 226 [])) 226 [] (FV.v 226 []) rfl rfl h hl rfl (by have:=hr.lo;omega) λx hx H h1 h2=>(iK x (hr.owners x hx)).fsp H;have dS:=(iJ r.owners (by have:=hr.lo;omega)).fsp;have Pb:=λ(h:List Row) (hl:Low h)=>iH r.lics GY (.v (.func 231 [])) 231 [] (FV.v 231 []) rfl rfl h hl rfl (by omega) λx hx H h1 h2=>(iG x).fsp H;have Xr:∀a b c d e f g i n:V,Low [.cells [.v a,.v b,.v c,.v d,.v e,.v f,.v g,.v i],.cells [.v n]]:=by
  intro a b c d e f g i n row hrow;simp at hrow;rcases hrow with rfl|rfl<;>rfl
 simp at p1 p2 p3 p4 p5 p6 p7 p8 p9 dS Pb;simp only[Ai 128,AE,AF,AK,AA 128 0,AA 128 1,AX];simp[Rgt.V,Rgt.cs,AO];generalize Dl r.file 0 4095=A1 at*;generalize Dl r.state 0 4=A2 at*;generalize Dl r.force 0 4=A3 at*;generalize CD r.claims=A4 at*;generalize r.dates.all (Ga r.claims.length)=B1 at*;generalize CU Gb r.dates=B2 at*;generalize (r.bad.all λi=>Dl i 0 (r.claims.length-1))=B3 at*;generalize CU (λa b=>decide (a <b)) r.bad=B4 at*;generalize r.owners.all E8=B5 at*;generalize CU (λa b=>decide (a.party <b.party)) r.owners=B6 at*;generalize r.lics.all GY=B7 at*;simp only[AA 128 2];simp;refine⟨_,_,p1 _,?_⟩;cases A1 with
 |false=>simp at hR;simp[AB,AA 128 3,AW 128,hR]
 |true=>
 simp;refine⟨_,_,p2 _,?_⟩;cases A2 with
 |false=>simp at hR;simp[AB,AA 128 3,AW 128,hR]
 |true=>
 simp;refine⟨_,_,p3 _,?_⟩;cases A3 with
 |false=>simp at hR;simp[AB,AA 128 3,AW 128,hR]
 |true=>
 simp;refine⟨_,_,p4 _,?_⟩;by_cases h4:A4=0
 case neg=>
  have hf:R=false:=by rw[←hR];simp[h4]
  simp[h4,AB,AA 128 3,AW 128,hf]
 subst h4;by_cases h5:4096 <r.dates.length
 ·have h5':4096 <(r.dates.length:Int):=by omega
  have hf:R=false:=by rw[←hR];simp;omega
  simp[h5',AB,AA 128 3,AW 128,hf]
 have h5':¬4096 <(r.dates.length:Int):=by omega
 by_cases h6:4096 <r.lics.length
 ·have h6':4096 <(r.lics.length:Int):=by omega
  have hf:R=false:=by rw[←hR];simp;omega
  simp[h5',h6',AB,AA 128 3,AW 128,hf]
 have h6':¬4096 <(r.lics.length:Int):=by omega
 have e5:r.dates.length≤4096:=by omega
 have e6:r.lics.length≤4096:=by omega
 have hR2:(B1&&B2&&(B3&&B4)&&(B5&&B6)&&B7)=R:=by rw[←hR];simp[e5,e6]
 clear hR;simp[h5',h6',AD];generalize hrows:[Row.cells [D.v (V.int IntKind.i64 r.file),D.v (V.int IntKind.i64 r.state),D.v (V.int IntKind.i64 r.force),D.v (V.list (List.map Clm.V r.claims)),D.v (V.list (List.map Dat.V r.dates)),D.v (AH IntKind.i64 r.bad),D.v (V.list (List.map Own.V r.owners)),D.v (V.list (List.map Lic.V r.lics))],
  Row.cells [D.v (V.int IntKind.i64 ↑r.claims.length)]]=H
 have hlow:Low H:=by rw[←hrows];exact Xr _ _ _ _ _ _ _ _ _
 have h0:H[0]?=some (Row.cells [D.v (V.int IntKind.i64 r.file),D.v (V.int IntKind.i64 r.state),D.v (V.int IntKind.i64 r.force),D.v (V.list (List.map Clm.V r.claims)),D.v (V.list (List.map Dat.V r.dates)),D.v (AH IntKind.i64 r.bad),D.v (V.list (List.map Own.V r.owners)),D.v (V.list (List.map Lic.V r.lics))]):=by rw[←hrows];rfl
 have h1:H[1]?=some (Row.cells [D.v (V.int IntKind.i64 ↑r.claims.length)]):=by rw[←hrows];rfl
 have s4:∀(K:St→Prop) (e:CB),AG e 1= .ref 0 0→AG e 3= .ref 1 0→(∀e',AG e' 1= .ref 0 0→AG e' 3= .ref 1 0→AG e' 4= .v (.bool (B1&&B2))→K ⟨e',H⟩)→Bz Tryz.prog Ah (oG 128 4) K ⟨e,H⟩:=by
  intro K e f1 f3 hK;simp only[AA 128 4];simp[D.vs?,D.v?,f1,f3,h0];refine⟨_,_,(p5 _ 1 h1 hlow),?_⟩;cases B1 with
  |false=>simp;exact hK _ f1 f3 rfl
  |true=>
   simp[h0,AH];refine⟨_,_,(p6 _),?_⟩;cases B2<;>(simp;exact hK _ f1 f3 rfl)
 have s5:∀(K:St→Prop) (e:CB),AG e 1= .ref 0 0→AG e 3= .ref 1 0→(∀e',AG e' 1= .ref 0 0→AG e' 4=AG e 4→AG e' 5= .v (.bool (B3&&B4))→K ⟨e',H⟩)→Bz Tryz.prog Ah (oG 128 5) K ⟨e,H⟩:=by
  intro K e f1 f3 hK;simp only[AA 128 5];simp[D.vs?,D.v?,f1,f3,h0,AH];refine⟨_,_,(p7 _ 1 h1 hlow),?_⟩;cases B3 with
  |false=>simp;exact hK _ f1 rfl rfl
  |true=>
   simp[h0,AH];refine⟨_,_,(p8 _),?_⟩;cases B4<;>(simp;exact hK _ f1 rfl rfl)
 have s6:∀(K:St→Prop) (e:CB),AG e 1= .ref 0 0→(∀e',AG e' 1= .ref 0 0→AG e' 4=AG e 4→AG e' 5=AG e 5→AG e' 6= .v (.bool (B5&&B6))→K ⟨e',H⟩)→Bz Tryz.prog Ah (oG 128 6) K ⟨e,H⟩:=by
  intro K e f1 hK;simp only[AA 128 6];simp[f1,h0];refine⟨_,_,(p9 _ hlow),?_⟩;cases B5 with
  |false=>simp;exact hK _ f1 rfl rfl rfl
  |true=>
   simp[h0,AH];refine⟨_,_,(dS _),?_⟩;cases B6<;>(simp;exact hK _ f1 rfl rfl rfl)
 have s7:∀(K:St→Prop) (e:CB),AG e 1= .ref 0 0→(∀e',AG e' 4=AG e 4→AG e' 5=AG e 5→AG e' 6=AG e 6→AG e' 7= .v (.bool B7)→K ⟨e',H⟩)→Bz Tryz.prog Ah (oG 128 7) K ⟨e,H⟩:=by
  intro K e f1 hK;simp only[AA 128 7];simp[f1,h0];refine⟨_,_,(Pb _ hlow),?_⟩;simp;exact hK _ rfl rfl rfl rfl
 refine s4 _ _ rfl rfl ?_;intro e4 g1 g3 g4;refine s5 _ _ (by simp[g1]) (by simp[g3]) ?_;intro e5 k1 k4 k5;refine s6 _ _ (by simp[k1]) ?_;intro e6' m1 m4 m5 m6;refine s7 _ _ (by simp[m1]) ?_;intro e7 n4 n5 n6 n7;simp at k4 m4 m5 n4 n5 n6;generalize (B1&&B2)=C1 at*;generalize (B3&&B4)=C2 at*;generalize (B5&&B6)=C3 at*;subst hR2;simp only[AA 128 8];simp[n4,n5,n6,n7,m4,m5,m6,k4,k5,g4];cases C1<;>cases C2<;>cases C3<;>simp[AB,AW 128]
theorem Oo (d:Dat):[d.cl,d.ix,d.day,d.file].flatMap AZ=BW d:=by simp[BW]
theorem Om (d:Own):[d.party,d.num,d.den].flatMap AZ=BU d:=by simp[BU]
theorem On (d:Lic):[d.fr,d.to,d.fst,d.lst].flatMap AZ=BV d:=by simp[BV]
theorem Cs {α:Type} {f:α→List Int} (hf:∀x,(f x).length≤40):∀l:List α,(l.flatMap f).length≤40*l.length
 |[]=>by simp
 |x::l=>by
  have:=hf x;have:=Cs hf l;simp only[oZ,oL,oj];omega
theorem EM (d:Dat):(BW d).length≤40:=by
 have:=Ab d.cl;have:=Ab d.ix;have:=Ab d.day;have:=Ab d.file;simp only[BW,oL];omega
theorem EK (d:Own):(BU d).length≤40:=by
 have:=Ab d.party;have:=Ab d.num;have:=Ab d.den;simp only[BU,oL];omega
theorem EL (d:Lic):(BV d).length≤40:=by
 have:=Ab d.fr;have:=Ab d.to;have:=Ab d.fst;have:=Ab d.lst;simp only[BV,oL];omega
theorem ax (C:Row) (ds:List Dat) (hds:∀d∈ds,d.ok) (hn:ds.length≤2^30) (X:List Int) (hX:X.length≤2^43) (J:List Row):
  awp Tryz.prog Ah (.loop (lG 51 0)) (λe s=>e= .exit 0∧AG s.e 1= .ref 0 0∧AG s.e 4= .ref 1 0∧AG s.e 5= .func 129 [.ref 1 0]∧∃J2,s.h=C::wr (X++ds.flatMap BW)::J2)
   ⟨[(1,.ref 0 0),(4,.ref 1 0),(5,.func 129 [.ref 1 0]),(42,.v (.list (ds.map Dat.V))),(43,.v (.int .i64 ds.length)),(44,.v (.int .i64 0))],C::wr X::J⟩:=by
 refine AY ds.length (λk s=>s.e=[(1,.ref 0 0),(4,.ref 1 0),(5,.func 129 [.ref 1 0]),(42,.v (.list (ds.map Dat.V))),(43,.v (.int .i64 ds.length)),(44,.v (.int .i64 k))]∧∃J2,s.h=C::wr (X++(ds.take k).flatMap BW)::J2) ⟨rfl,J,by simp⟩ ?_;rintro k ⟨se,sh⟩ hk ⟨he,J2,hh⟩;simp only at he hh;subst he hh;simp only[Zw,A8 51 0,AA 51 10];simp;by_cases hlt:k <ds.length
 ·obtain⟨x,hx⟩:∃x,ds[k]?=some x:=⟨_,oI hlt⟩;have hxe:ds[k]=x:=(oM.1 hx).2;have hw:=Bb k;have hle:=Cs EM (ds.take k);have ht:(ds.take k).length=k:=by simp;omega
  have e:(ds.take (k+1)).flatMap BW=(ds.take k).flatMap BW++BW x:=by rw[BT hlt,hxe]
  have hp:=λh hr=>PZ [x.cl,x.ix,x.day,x.file] (by
    intro n hn;simp at hn;rcases hn with rfl|rfl|rfl|rfl
    ·exact(hds x (oK hx)).1
    ·exact(hds x (oK hx)).2.1
    ·exact(hds x (oK hx)).2.2.1
    ·exact(hds x (oK hx)).2.2.2) (by simp) h 1 (X++(ds.take k).flatMap BW) hr (by rw[oL];omega)
  rw[Oo]at hp;simp[AH]at hp;rw[if_pos (by omega),AD];simp only[AA 51 11,AA 51 12];simp[hx,Dat.V,AO,D.vs?,D.v?];refine⟨_,_,(hp _ rfl),?_⟩;simp[AA 51 13,hw,hlt,e]
 ·have:k=ds.length:=by omega
  subst this;rw[if_neg (by omega),AJ];simp
theorem aw (C:Row) (ds:List Own) (hds:∀d∈ds,d.ok) (hn:ds.length≤2^30) (X:List Int) (hX:X.length≤2^43) (J:List Row):
  awp Tryz.prog Ah (.loop (lG 51 1)) (λe s=>e= .exit 2∧AG s.e 1= .ref 0 0∧AG s.e 4= .ref 1 0∧AG s.e 5= .func 129 [.ref 1 0]∧∃J2,s.h=C::wr (X++ds.flatMap BU)::J2)
   ⟨[(1,.ref 0 0),(4,.ref 1 0),(5,.func 129 [.ref 1 0]),(72,.v (.list (ds.map Own.V))),(73,.v (.int .i64 ds.length)),(74,.v (.int .i64 0))],C::wr X::J⟩:=by
 refine AY ds.length (λk s=>s.e=[(1,.ref 0 0),(4,.ref 1 0),(5,.func 129 [.ref 1 0]),(72,.v (.list (ds.map Own.V))),(73,.v (.int .i64 ds.length)),(74,.v (.int .i64 k))]∧∃J2,s.h=C::wr (X++(ds.take k).flatMap BU)::J2) ⟨rfl,J,by simp⟩ ?_;rintro k ⟨se,sh⟩ hk ⟨he,J2,hh⟩;simp only at he hh;subst he hh;simp only[Zw,A8 51 1,AA 51 17];simp;by_cases hlt:k <ds.length
 ·obtain⟨x,hx⟩:∃x,ds[k]?=some x:=⟨_,oI hlt⟩;have hxe:ds[k]=x:=(oM.1 hx).2;have hw:=Bb k;have hle:=Cs EK (ds.take k);have ht:(ds.take k).length=k:=by simp;omega
  have e:(ds.take (k+1)).flatMap BU=(ds.take k).flatMap BU++BU x:=by rw[BT hlt,hxe]
  have hp:=λh hr=>PZ [x.party,x.num,x.den] (by
    intro n hn;simp at hn;rcases hn with rfl|rfl|rfl
    ·exact(hds x (oK hx)).1
    ·exact(hds x (oK hx)).2.1
    ·exact(hds x (oK hx)).2.2) (by simp) h 1 (X++(ds.take k).flatMap BU) hr (by rw[oL];omega)
  rw[Om]at hp;simp[AH]at hp;rw[if_pos (by omega),AD];simp only[AA 51 18,AA 51 19];simp[hx,Own.V,AO,D.vs?,D.v?];refine⟨_,_,(hp _ rfl),?_⟩;simp[AA 51 20,hw,hlt,e]
 ·have:k=ds.length:=by omega
  subst this;rw[if_neg (by omega),AJ];simp
theorem av (C:Row) (ds:List Lic) (hds:∀d∈ds,d.ok) (hn:ds.length≤2^30) (X:List Int) (hX:X.length≤2^43) (J:List Row):
  awp Tryz.prog Ah (.loop (lG 51 2)) (λe s=>e= .exit 4∧AG s.e 4= .ref 1 0∧AG s.e 5= .func 129 [.ref 1 0]∧∃J2,s.h=C::wr (X++ds.flatMap BV)::J2)
   ⟨[(4,.ref 1 0),(5,.func 129 [.ref 1 0]),(97,.v (.list (ds.map Lic.V))),(98,.v (.int .i64 ds.length)),(99,.v (.int .i64 0))],C::wr X::J⟩:=by
 refine AY ds.length (λk s=>s.e=[(4,.ref 1 0),(5,.func 129 [.ref 1 0]),(97,.v (.list (ds.map Lic.V))),(98,.v (.int .i64 ds.length)),(99,.v (.int .i64 k))]∧∃J2,s.h=C::wr (X++(ds.take k).flatMap BV)::J2) ⟨rfl,J,by simp⟩ ?_;rintro k ⟨se,sh⟩ hk ⟨he,J2,hh⟩;simp only at he hh;subst he hh;simp only[Zw,A8 51 2,AA 51 23];simp;by_cases hlt:k <ds.length
 ·obtain⟨x,hx⟩:∃x,ds[k]?=some x:=⟨_,oI hlt⟩;have hxe:ds[k]=x:=(oM.1 hx).2;have hw:=Bb k;have hle:=Cs EL (ds.take k);have ht:(ds.take k).length=k:=by simp;omega
  have e:(ds.take (k+1)).flatMap BV=(ds.take k).flatMap BV++BV x:=by rw[BT hlt,hxe]
  have hp:=λh hr=>PZ [x.fr,x.to,x.fst,x.lst] (by
    intro n hn;simp at hn;rcases hn with rfl|rfl|rfl|rfl
    ·exact(hds x (oK hx)).1
    ·exact(hds x (oK hx)).2.1
    ·exact(hds x (oK hx)).2.2.1
    ·exact(hds x (oK hx)).2.2.2) (by simp) h 1 (X++(ds.take k).flatMap BV) hr (by rw[oL];omega)
  rw[On]at hp;simp[AH]at hp;rw[if_pos (by omega),AD];simp only[AA 51 24,AA 51 25];simp[hx,Lic.V,AO,D.vs?,D.v?];refine⟨_,_,(hp _ rfl),?_⟩;simp[AA 51 26,hw,hlt,e]
 ·have:k=ds.length:=by omega
  subst this;rw[if_neg (by omega),AJ];simp
theorem l0 (r:Rgt) (hr:r.ok):PX 51 [r.V] [AH .u8 (if Aw r then Be r else []),.int .i64 (if Aw r then 0 else 1)]:=by
 refine BJ 51 ?_;have p1:=(Pa r hr).fsp;have hlb:=hr.lb;have hld:=hr.ld;have hlo:=hr.lo;have hll:=hr.ll;have henc:=hr.enc;have hcl:Aw r=true→CD r.claims=0:=by
  intro h;unfold Aw at h;simp at h;exact h.1.1.1.1.1.1.2
 have p2:=(aI r.claims hr.claims (by have:=hr.lc;omega) henc).fsp;cases hf:Aw r with
 |false=>
  rw[hf]at p1;simp only[Ai 51,AE,AF,AK,AA 51 0,AA 51 1,AX];simp[Rgt.V,Rgt.cs]at p1 ⊢;refine⟨_,_,p1 _,?_⟩;simp[AB,AA 51 2,AW 51,AH]
 |true=>
  rw[hf]at p1;rw[hcl hf]at p2;simp at p2;have hres:Be r=Be r:=rfl;obtain⟨R,hR⟩:∃R,Be r=R:=⟨_,rfl⟩;rw[hR];have hB:=isB.encClms hr.claims (by have:=hr.lc;omega) (by omega);have hraw:(BE (BB r.claims)).length≤2^40:=by have:=CV (BB r.claims).length;simp only[BE,oL];omega
  have q1:=λh hq=>PZ [r.file,r.state,r.force] (by intro n hn;simp at hn;rcases hn with rfl|rfl|rfl;exact hr.file;exact hr.state;exact hr.force) (by simp) h 1 [] hq (by simp)
  simp only[qz]at q1;have i1:=Ab r.file;have i2:=Ab r.state;have i3:=Ab r.force;obtain⟨X1,hX1⟩:∃X1,[r.file,r.state,r.force].flatMap AZ=X1:=⟨_,rfl⟩;have l1:X1.length≤30:=by rw[←hX1];simp;omega
  rw[hX1]at q1;have q2:=λh hq=>lq (BB r.claims) hB (by omega) h 1 X1 hq (by omega);obtain⟨X2,hX2⟩:∃X2,X1++BE (BB r.claims)=X2:=⟨_,rfl⟩;have l2:X2.length≤2^41:=by rw[←hX2,oL];omega
  rw[hX2]at q2;have q3:=λh hq=>PZ [(r.dates.length:Int)] (by intro n hn;simp at hn;subst hn;unfold i64;omega) (by simp) h 1 X2 hq (by omega);obtain⟨X3,hX3⟩:∃X3,X2++[(r.dates.length:Int)].flatMap AZ=X3:=⟨_,rfl⟩;have i4:=Ab r.dates.length;have l3:X3.length≤2^41+10:=by rw[←hX3];simp;omega
  rw[hX3]at q3;have q4:=λC J=>ax C r.dates hr.dates hld X3 (by omega) J;have i5:=Cs EM r.dates;obtain⟨X4,hX4⟩:∃X4,X3++r.dates.flatMap BW=X4:=⟨_,rfl⟩;have l4:X4.length≤2^41+2^37:=by rw[←hX4,oL];omega
  rw[hX4]at q4;have q5:=λh hq=>Xc r.bad hr.bad (by omega) h 1 X4 hq (by omega);have i6:=B8 r.bad;have i7:=CV r.bad.length;obtain⟨X5,hX5⟩:∃X5,X4++A6 r.bad=X5:=⟨_,rfl⟩;have l5:X5.length≤2^41+2^38:=by rw[←hX5,oL,A6,oL];omega
  rw[hX5]at q5;have q6:=λh hq=>PZ [(r.owners.length:Int)] (by intro n hn;simp at hn;subst hn;unfold i64;omega) (by simp) h 1 X5 hq (by omega);obtain⟨X6,hX6⟩:∃X6,X5++[(r.owners.length:Int)].flatMap AZ=X6:=⟨_,rfl⟩;have i8:=Ab r.owners.length;have l6:X6.length≤2^41+2^38+10:=by rw[←hX6];simp;omega
  rw[hX6]at q6;have q7:=λC J=>aw C r.owners hr.owners hlo X6 (by omega) J;have i9:=Cs EK r.owners;obtain⟨X7,hX7⟩:∃X7,X6++r.owners.flatMap BU=X7:=⟨_,rfl⟩;have l7:X7.length≤2^41+2^39:=by rw[←hX7,oL];omega
  rw[hX7]at q7;have q8:=λh hq=>PZ [(r.lics.length:Int)] (by intro n hn;simp at hn;subst hn;unfold i64;omega) (by simp) h 1 X7 hq (by omega);obtain⟨X8,hX8⟩:∃X8,X7++[(r.lics.length:Int)].flatMap AZ=X8:=⟨_,rfl⟩;have i10:=Ab r.lics.length;have l8:X8.length≤2^41+2^39+10:=by rw[←hX8];simp;omega
  rw[hX8]at q8;have q9:=λC J=>av C r.lics hr.lics hll X8 (by omega) J;have i11:=Cs EL r.lics;obtain⟨X9,hX9⟩:∃X9,X8++r.lics.flatMap BV=X9:=⟨_,rfl⟩;have l9:X9.length≤2^42:=by rw[←hX9,oL];omega
  rw[hX9]at q9;have hRX:X9=R:=by
   rw[←hR,←hX9,←hX8,←hX7,←hX6,←hX5,←hX4,←hX3,←hX2,←hX1];simp[Be]
  rw[hRX]at q9 l9;simp[AH]at p2 q1 q2 q3 q5 q6 q8;simp only[Zw,Ai 51,AA 51 0,AA 51 1,AX];simp[Rgt.V,Rgt.cs,AH]at p1 ⊢;refine⟨_,_,p1 _,?_⟩;simp[AD,AA 51 3,AA 51 4];simp[AA 51 5,D.vs?,D.v?];refine⟨_,_,(q1 _ rfl),?_⟩;simp[AA 51 6];refine⟨_,_,p2 _,?_⟩;simp[AA 51 7];refine⟨_,_,(q2 _ rfl),?_⟩;simp[AA 51 8,D.vs?,D.v?];refine⟨_,_,(q3 _ rfl),?_⟩;simp[AA 51 9];refine Ad _ ?_ (q4 _ _);rintro e ⟨se,sh⟩ ⟨rfl,f1,f4,f5,J2,hh⟩;simp only at f1 f4 f5 hh;subst hh;simp[AA 51 14,f1,f4,f5];refine⟨_,_,(q5 _ rfl),?_⟩;simp[AA 51 15,D.vs?,D.v?];refine⟨_,_,(q6 _ rfl),?_⟩;simp[AA 51 16];refine Ad _ ?_ (q7 _ _);rintro e ⟨se,sh⟩ ⟨rfl,f1,f4,f5,J2,hh⟩;simp only at f1 f4 f5 hh;subst hh;simp[AA 51 21,f1,f4,f5,D.vs?,D.v?];refine⟨_,_,(q8 _ rfl),?_⟩;simp[AA 51 22];refine Ad _ ?_ (q9 _ _);rintro e ⟨se,sh⟩ ⟨rfl,f4,f5,J2,hh⟩;simp only at f4 f5 hh;subst hh;simp[AA 51 27,f4];refine⟨_,_,(Xb _ 1 R rfl (by omega)),?_⟩;simp[AB,AW 51]
end Go.Va
