/- Laws that ExtractBytes leans on, part 19. No condition of its own. -/
import Derived.Test.YtopldfpkgbkomaaGreatDoorL15
set_option linter.all false
set_option maxRecDepth 100000
set_option maxHeartbeats 4000000
noncomputable section
namespace Go.Va
open Go.Proofs
theorem Qh (l:List Int) (hi:∀n∈l,i64 n) (hn:l.length≤2^30) (h:List Row) (w:Nat) (xs:List Int) (hw:h[w]?=some (wr xs)) (hb:xs.length≤2^44):
  FX 129 [.v (AH .i64 l),.ref w 0] h [] (h.set w (wr (xs++l.flatMap AN))):=by
 refine Fn 129 ?_;obtain⟨HH,hHH⟩:∃HH,h.set w (wr (xs++l.flatMap AN))=HH:=⟨_,rfl⟩;rw[hHH];simp only[At 129,AE,AG,AU,AA 129 0,Ab];simp[AH];refine AM l.length (λk=>⟨[(1,.ref w 0),(5,.v (AH .i64 l)),(6,.v (.int .i64 l.length)),(7,.v (.int .i64 k))],h.set w (wr (xs++(l.take k).flatMap AN))⟩) ?_ ?_
 ·have:h.set w (wr xs)=h:=by
   obtain⟨g1,g2⟩:=qK.1 hw;rw[←g2,uB]
  simp[AH,this]
 intro k hk;simp only[Zw,BA 129 0,AA 129 1];simp[AH];by_cases h1:k <l.length
 ·have hx:l[k]?=some l[k]:=qH h1;have hww:=Bo k;have hf:=Au (l.take k);have ht:(l.take k).length=k:=by simp;omega
  rw[if_pos (by omega),AB];simp only[AA 129 2,AA 129 3];simp[hx];refine⟨_,_,(MN l[k] (hi _ (rl h1)) (h.set w (wr (xs++(l.take k).flatMap AN))) w _ (Aq hw) (by rw[qG];omega)),?_⟩;simp[AA 129 4,hww,h1];rw[Av h1]
 ·have:k=l.length:=by omega
  subst this;rw[if_neg (by omega),AJ];simp[AX 129,hHH]
theorem Qi (r:Rgt) (hr:r.ok):PX 128 [r.V] [.bool (Ag r)]:=by
 refine BU 128 ?_;obtain⟨R,hR⟩:∃R,Ag r=R:=⟨_,rfl⟩;rw[hR];unfold Ag at hR;have hlc:=hr.lc;have hld:=hr.ld;have hll:=hr.ll;have p1:=(Kq r.file 0 4095).fsp;have p2:=(Kq r.state 0 4).fsp;have p3:=(Kq r.force 0 4).fsp;have p4:=(eA r.claims hr.claims (by omega)).fsp;have p5:=λ(h:List Row) (q:Nat) (hq:h[q]?=some (.cells [.v (.int .i64 r.claims.length)])) (hl:Low h)=>
  lA r.dates (HC r.claims.length) (.func 218 [.ref q 0]) 218 [.ref q 0] (FV.r 218 q 0 []) rfl rfl h hl (by simp[D.lt,D.lts];exact Di hq) (by omega) λx _ H h1 h2=>k9 x r.claims.length H q (h2 q _ hq) ⟨by omega,by omega⟩ h1
 have p6:=(k8 r.dates (by omega)).fsp;have p7:=λ(h:List Row) (q:Nat) (hq:h[q]?=some (.cells [.v (.int .i64 r.claims.length)])) (hl:Low h)=>
  ku r.bad (λi=>D5 i 0 (r.claims.length-1)) (.func 222 [.ref q 0]) 222 [.ref q 0] (FV.r 222 q 0 []) rfl rfl h hl (by simp[D.lt,D.lts];exact Di hq) (by have:=hr.lb;omega) λx _ H h1 h2=>km x r.claims.length H q (h2 q _ hq) ⟨by omega,by omega⟩
 have p8:=(kj r.bad (by have:=hr.lb;omega)).fsp;have p9:=λ(h:List Row) (hl:Low h)=>kg r.owners FW (.v (.func 226 [])) 226 [] (FV.v 226 []) rfl rfl h hl rfl (by have:=hr.lo;omega) λx hx H h1 h2=>(kf x (hr.owners x hx)).fsp H;have iR:=(kb r.owners (by have:=hr.lo;omega)).fsp;have MW:=λ(h:List Row) (hl:Low h)=>kZ r.lics G9 (.v (.func 231 [])) 231 [] (FV.v 231 []) rfl rfl h hl rfl (by omega) λx hx H h1 h2=>(kY x).fsp H;have low2:∀a b c d e f g i n:V,Low [.cells [.v a,.v b,.v c,.v d,.v e,.v f,.v g,.v i],.cells [.v n]]:=by
  intro a b c d e f g i n row hrow;simp at hrow;rcases hrow with rfl|rfl<;>rfl
 simp at p1 p2 p3 p4 p5 p6 p7 p8 p9 iR MW;simp only[At 128,AE,AG,AL,AA 128 0,AA 128 1,AV];simp[Rgt.V,Rgt.cs,AS];generalize D5 r.file 0 4095=A1 at*;generalize D5 r.state 0 4=A2 at*;generalize D5 r.force 0 4=A3 at*;generalize CV r.claims=A4 at*;generalize r.dates.all (HC r.claims.length)=B1 at*;generalize Co HD r.dates=B2 at*;generalize (r.bad.all λi=>D5 i 0 (r.claims.length-1))=B3 at*;generalize Co (λa b=>decide (a <b)) r.bad=B4 at*;generalize r.owners.all FW=B5 at*;generalize Co (λa b=>decide (a.party <b.party)) r.owners=B6 at*;generalize r.lics.all G9=B7 at*;simp only[AA 128 2];simp;refine⟨_,_,p1 _,?_⟩;cases A1 with
 |false=>simp at hR;simp[AD,AA 128 3,AX 128,hR]
 |true=>
 simp;refine⟨_,_,p2 _,?_⟩;cases A2 with
 |false=>simp at hR;simp[AD,AA 128 3,AX 128,hR]
 |true=>
 simp;refine⟨_,_,p3 _,?_⟩;cases A3 with
 |false=>simp at hR;simp[AD,AA 128 3,AX 128,hR]
 |true=>
 simp;refine⟨_,_,p4 _,?_⟩;by_cases h4:A4=0
 case neg=>
  have hf:R=false:=by rw[←hR];simp[h4]
  simp[h4,AD,AA 128 3,AX 128,hf]
 subst h4;by_cases h5:4096 <r.dates.length
 ·have h5':4096 <(r.dates.length:Int):=by omega
  have hf:R=false:=by rw[←hR];simp;omega
  simp[h5',AD,AA 128 3,AX 128,hf]
 have h5':¬4096 <(r.dates.length:Int):=by omega
 by_cases h6:4096 <r.lics.length
 ·have h6':4096 <(r.lics.length:Int):=by omega
  have hf:R=false:=by rw[←hR];simp;omega
  simp[h5',h6',AD,AA 128 3,AX 128,hf]
 have h6':¬4096 <(r.lics.length:Int):=by omega
 have e5:r.dates.length≤4096:=by omega
 have e6:r.lics.length≤4096:=by omega
 have hR2:(B1&&B2&&(B3&&B4)&&(B5&&B6)&&B7)=R:=by rw[←hR];simp[e5,e6]
 clear hR;simp[h5',h6',AB];generalize hrows:[Row.cells [D.v (V.int IntKind.i64 r.file),D.v (V.int IntKind.i64 r.state),D.v (V.int IntKind.i64 r.force),D.v (V.list (List.map Clm.V r.claims)),D.v (V.list (List.map Dat.V r.dates)),D.v (AH IntKind.i64 r.bad),D.v (V.list (List.map Own.V r.owners)),D.v (V.list (List.map Lic.V r.lics))],
  Row.cells [D.v (V.int IntKind.i64 ↑r.claims.length)]]=H
 have hlow:Low H:=by rw[←hrows];exact low2 _ _ _ _ _ _ _ _ _
 have h0:H[0]?=some (Row.cells [D.v (V.int IntKind.i64 r.file),D.v (V.int IntKind.i64 r.state),D.v (V.int IntKind.i64 r.force),D.v (V.list (List.map Clm.V r.claims)),D.v (V.list (List.map Dat.V r.dates)),D.v (AH IntKind.i64 r.bad),D.v (V.list (List.map Own.V r.owners)),D.v (V.list (List.map Lic.V r.lics))]):=by rw[←hrows];rfl
 have h1:H[1]?=some (Row.cells [D.v (V.int IntKind.i64 ↑r.claims.length)]):=by rw[←hrows];rfl
 have s4:∀(K:St→Prop) (e:CH),AF e 1= .ref 0 0→AF e 3= .ref 1 0→(∀e',AF e' 1= .ref 0 0→AF e' 3= .ref 1 0→AF e' 4= .v (.bool (B1&&B2))→K ⟨e',H⟩)→Bd Tryz.prog An (oG 128 4) K ⟨e,H⟩:=by
  intro K e f1 f3 hK;simp only[AA 128 4];simp[D.vs?,D.v?,f1,f3,h0];refine⟨_,_,(p5 _ 1 h1 hlow),?_⟩;cases B1 with
  |false=>simp;exact hK _ f1 f3 rfl
  |true=>
   simp[h0,AH];refine⟨_,_,(p6 _),?_⟩;cases B2<;>(simp;exact hK _ f1 f3 rfl)
 have s5:∀(K:St→Prop) (e:CH),AF e 1= .ref 0 0→AF e 3= .ref 1 0→(∀e',AF e' 1= .ref 0 0→AF e' 4=AF e 4→AF e' 5= .v (.bool (B3&&B4))→K ⟨e',H⟩)→Bd Tryz.prog An (oG 128 5) K ⟨e,H⟩:=by
  intro K e f1 f3 hK;simp only[AA 128 5];simp[D.vs?,D.v?,f1,f3,h0,AH];refine⟨_,_,(p7 _ 1 h1 hlow),?_⟩;cases B3 with
  |false=>simp;exact hK _ f1 rfl rfl
  |true=>
   simp[h0,AH];refine⟨_,_,(p8 _),?_⟩;cases B4<;>(simp;exact hK _ f1 rfl rfl)
 have s6:∀(K:St→Prop) (e:CH),AF e 1= .ref 0 0→(∀e',AF e' 1= .ref 0 0→AF e' 4=AF e 4→AF e' 5=AF e 5→AF e' 6= .v (.bool (B5&&B6))→K ⟨e',H⟩)→Bd Tryz.prog An (oG 128 6) K ⟨e,H⟩:=by
  intro K e f1 hK;simp only[AA 128 6];simp[f1,h0];refine⟨_,_,(p9 _ hlow),?_⟩;cases B5 with
  |false=>simp;exact hK _ f1 rfl rfl rfl
  |true=>
   simp[h0,AH];refine⟨_,_,(iR _),?_⟩;cases B6<;>(simp;exact hK _ f1 rfl rfl rfl)
 have s7:∀(K:St→Prop) (e:CH),AF e 1= .ref 0 0→(∀e',AF e' 4=AF e 4→AF e' 5=AF e 5→AF e' 6=AF e 6→AF e' 7= .v (.bool B7)→K ⟨e',H⟩)→Bd Tryz.prog An (oG 128 7) K ⟨e,H⟩:=by
  intro K e f1 hK;simp only[AA 128 7];simp[f1,h0];refine⟨_,_,(MW _ hlow),?_⟩;simp;exact hK _ rfl rfl rfl rfl
 refine s4 _ _ rfl rfl ?_;intro e4 g1 g3 g4;refine s5 _ _ (by simp[g1]) (by simp[g3]) ?_;intro e5 k1 k4 k5;refine s6 _ _ (by simp[k1]) ?_;intro e6' m1 m4 m5 m6;refine s7 _ _ (by simp[m1]) ?_;intro e7 n4 n5 n6 n7;simp at k4 m4 m5 n4 n5 n6;generalize (B1&&B2)=C1 at*;generalize (B3&&B4)=C2 at*;generalize (B5&&B6)=C3 at*;subst hR2;simp only[AA 128 8];simp[n4,n5,n6,n7,m4,m5,m6,k4,k5,g4];cases C1<;>cases C2<;>cases C3<;>simp[AD,AX 128]
theorem Pv (d:Dat):[d.cl,d.ix,d.day,d.file].flatMap AN=CE d:=by simp[CE]
theorem Pt (d:Own):[d.party,d.num,d.den].flatMap AN=CB d:=by simp[CB]
theorem Pu (d:Lic):[d.fr,d.to,d.fst,d.lst].flatMap AN=CC d:=by simp[CC]
theorem Cr {α:Type} {f:α→List Int} (hf:∀x,(f x).length≤40):∀l:List α,(l.flatMap f).length≤40*l.length
 |[]=>by simp
 |x::l=>by
  have:=hf x;have:=Cr hf l;simp only[qN,qG,qT];omega
theorem D1 (d:Dat):(CE d).length≤40:=by
 have:=AO d.cl;have:=AO d.ix;have:=AO d.day;have:=AO d.file;simp only[CE,qG];omega
theorem Dz (d:Own):(CB d).length≤40:=by
 have:=AO d.party;have:=AO d.num;have:=AO d.den;simp only[CB,qG];omega
theorem D0 (d:Lic):(CC d).length≤40:=by
 have:=AO d.fr;have:=AO d.to;have:=AO d.fst;have:=AO d.lst;simp only[CC,qG];omega
theorem et (C:Row) (ds:List Dat) (hds:∀d∈ds,d.ok) (hn:ds.length≤2^30) (X:List Int) (hX:X.length≤2^43) (J:List Row):
  awp Tryz.prog An (.loop (lG 51 0)) (λe s=>e= .exit 0∧AF s.e 1= .ref 0 0∧AF s.e 4= .ref 1 0∧AF s.e 5= .func 129 [.ref 1 0]∧∃J2,s.h=C::wr (X++ds.flatMap CE)::J2)
   ⟨[(1,.ref 0 0),(4,.ref 1 0),(5,.func 129 [.ref 1 0]),(42,.v (.list (ds.map Dat.V))),(43,.v (.int .i64 ds.length)),(44,.v (.int .i64 0))],C::wr X::J⟩:=by
 refine Al ds.length (λk s=>s.e=[(1,.ref 0 0),(4,.ref 1 0),(5,.func 129 [.ref 1 0]),(42,.v (.list (ds.map Dat.V))),(43,.v (.int .i64 ds.length)),(44,.v (.int .i64 k))]∧∃J2,s.h=C::wr (X++(ds.take k).flatMap CE)::J2) ⟨rfl,J,by simp⟩ ?_;rintro k ⟨se,sh⟩ hk ⟨he,J2,hh⟩;simp only at he hh;subst he hh;simp only[Zw,BA 51 0,AA 51 10];simp;by_cases hlt:k <ds.length
 ·obtain⟨x,hx⟩:∃x,ds[k]?=some x:=⟨_,qH hlt⟩;have hxe:ds[k]=x:=(qK.1 hx).2;have hw:=Bo k;have hle:=Cr D1 (ds.take k);have ht:(ds.take k).length=k:=by simp;omega
  have e:(ds.take (k+1)).flatMap CE=(ds.take k).flatMap CE++CE x:=by rw[Av hlt,hxe]
  have hp:=λh hr=>Qh [x.cl,x.ix,x.day,x.file] (by
    intro n hn;simp at hn;rcases hn with rfl|rfl|rfl|rfl
    ·exact(hds x (qJ hx)).1
    ·exact(hds x (qJ hx)).2.1
    ·exact(hds x (qJ hx)).2.2.1
    ·exact(hds x (qJ hx)).2.2.2) (by simp) h 1 (X++(ds.take k).flatMap CE) hr (by rw[qG];omega)
  rw[Pv]at hp;simp[AH]at hp;rw[if_pos (by omega),AB];simp only[AA 51 11,AA 51 12];simp[hx,Dat.V,AS,D.vs?,D.v?];refine⟨_,_,(hp _ rfl),?_⟩;simp[AA 51 13,hw,hlt,e]
 ·have:k=ds.length:=by omega
  subst this;rw[if_neg (by omega),AJ];simp
theorem ep (C:Row) (ds:List Own) (hds:∀d∈ds,d.ok) (hn:ds.length≤2^30) (X:List Int) (hX:X.length≤2^43) (J:List Row):
  awp Tryz.prog An (.loop (lG 51 1)) (λe s=>e= .exit 2∧AF s.e 1= .ref 0 0∧AF s.e 4= .ref 1 0∧AF s.e 5= .func 129 [.ref 1 0]∧∃J2,s.h=C::wr (X++ds.flatMap CB)::J2)
   ⟨[(1,.ref 0 0),(4,.ref 1 0),(5,.func 129 [.ref 1 0]),(72,.v (.list (ds.map Own.V))),(73,.v (.int .i64 ds.length)),(74,.v (.int .i64 0))],C::wr X::J⟩:=by
 refine Al ds.length (λk s=>s.e=[(1,.ref 0 0),(4,.ref 1 0),(5,.func 129 [.ref 1 0]),(72,.v (.list (ds.map Own.V))),(73,.v (.int .i64 ds.length)),(74,.v (.int .i64 k))]∧∃J2,s.h=C::wr (X++(ds.take k).flatMap CB)::J2) ⟨rfl,J,by simp⟩ ?_;rintro k ⟨se,sh⟩ hk ⟨he,J2,hh⟩;simp only at he hh;subst he hh;simp only[Zw,BA 51 1,AA 51 17];simp;by_cases hlt:k <ds.length
 ·obtain⟨x,hx⟩:∃x,ds[k]?=some x:=⟨_,qH hlt⟩;have hxe:ds[k]=x:=(qK.1 hx).2;have hw:=Bo k;have hle:=Cr Dz (ds.take k);have ht:(ds.take k).length=k:=by simp;omega
  have e:(ds.take (k+1)).flatMap CB=(ds.take k).flatMap CB++CB x:=by rw[Av hlt,hxe]
  have hp:=λh hr=>Qh [x.party,x.num,x.den] (by
    intro n hn;simp at hn;rcases hn with rfl|rfl|rfl
    ·exact(hds x (qJ hx)).1
    ·exact(hds x (qJ hx)).2.1
    ·exact(hds x (qJ hx)).2.2) (by simp) h 1 (X++(ds.take k).flatMap CB) hr (by rw[qG];omega)
  rw[Pt]at hp;simp[AH]at hp;rw[if_pos (by omega),AB];simp only[AA 51 18,AA 51 19];simp[hx,Own.V,AS,D.vs?,D.v?];refine⟨_,_,(hp _ rfl),?_⟩;simp[AA 51 20,hw,hlt,e]
 ·have:k=ds.length:=by omega
  subst this;rw[if_neg (by omega),AJ];simp
theorem eo (C:Row) (ds:List Lic) (hds:∀d∈ds,d.ok) (hn:ds.length≤2^30) (X:List Int) (hX:X.length≤2^43) (J:List Row):
  awp Tryz.prog An (.loop (lG 51 2)) (λe s=>e= .exit 4∧AF s.e 4= .ref 1 0∧AF s.e 5= .func 129 [.ref 1 0]∧∃J2,s.h=C::wr (X++ds.flatMap CC)::J2)
   ⟨[(4,.ref 1 0),(5,.func 129 [.ref 1 0]),(97,.v (.list (ds.map Lic.V))),(98,.v (.int .i64 ds.length)),(99,.v (.int .i64 0))],C::wr X::J⟩:=by
 refine Al ds.length (λk s=>s.e=[(4,.ref 1 0),(5,.func 129 [.ref 1 0]),(97,.v (.list (ds.map Lic.V))),(98,.v (.int .i64 ds.length)),(99,.v (.int .i64 k))]∧∃J2,s.h=C::wr (X++(ds.take k).flatMap CC)::J2) ⟨rfl,J,by simp⟩ ?_;rintro k ⟨se,sh⟩ hk ⟨he,J2,hh⟩;simp only at he hh;subst he hh;simp only[Zw,BA 51 2,AA 51 23];simp;by_cases hlt:k <ds.length
 ·obtain⟨x,hx⟩:∃x,ds[k]?=some x:=⟨_,qH hlt⟩;have hxe:ds[k]=x:=(qK.1 hx).2;have hw:=Bo k;have hle:=Cr D0 (ds.take k);have ht:(ds.take k).length=k:=by simp;omega
  have e:(ds.take (k+1)).flatMap CC=(ds.take k).flatMap CC++CC x:=by rw[Av hlt,hxe]
  have hp:=λh hr=>Qh [x.fr,x.to,x.fst,x.lst] (by
    intro n hn;simp at hn;rcases hn with rfl|rfl|rfl|rfl
    ·exact(hds x (qJ hx)).1
    ·exact(hds x (qJ hx)).2.1
    ·exact(hds x (qJ hx)).2.2.1
    ·exact(hds x (qJ hx)).2.2.2) (by simp) h 1 (X++(ds.take k).flatMap CC) hr (by rw[qG];omega)
  rw[Pu]at hp;simp[AH]at hp;rw[if_pos (by omega),AB];simp only[AA 51 24,AA 51 25];simp[hx,Lic.V,AS,D.vs?,D.v?];refine⟨_,_,(hp _ rfl),?_⟩;simp[AA 51 26,hw,hlt,e]
 ·have:k=ds.length:=by omega
  subst this;rw[if_neg (by omega),AJ];simp
theorem oR (r:Rgt) (hr:r.ok):PX 51 [r.V] [AH .u8 (if Ag r then Bg r else []),.int .i64 (if Ag r then 0 else 1)]:=by
 refine BU 51 ?_;have p1:=(Qi r hr).fsp;have hlb:=hr.lb;have hld:=hr.ld;have hlo:=hr.lo;have hll:=hr.ll;have henc:=hr.enc;have hcl:Ag r=true→CV r.claims=0:=by
  intro h;unfold Ag at h;simp at h;exact h.1.1.1.1.1.1.2
 have p2:=(eC r.claims hr.claims (by have:=hr.lc;omega) henc).fsp;cases hf:Ag r with
 |false=>
  rw[hf]at p1;simp only[At 51,AE,AG,AL,AA 51 0,AA 51 1,AV];simp[Rgt.V,Rgt.cs]at p1 ⊢;refine⟨_,_,p1 _,?_⟩;simp[AD,AA 51 2,AX 51,AH]
 |true=>
  rw[hf]at p1;rw[hcl hf]at p2;simp at p2;have hres:Bg r=Bg r:=rfl;obtain⟨R,hR⟩:∃R,Bg r=R:=⟨_,rfl⟩;rw[hR];have hB:=isB.encClms hr.claims (by have:=hr.lc;omega) (by omega);have hraw:(AY (A8 r.claims)).length≤2^40:=by have:=Aw (A8 r.claims).length;simp only[AY,qG];omega
  have q1:=λh hq=>Qh [r.file,r.state,r.force] (by intro n hn;simp at hn;rcases hn with rfl|rfl|rfl;exact hr.file;exact hr.state;exact hr.force) (by simp) h 1 [] hq (by simp)
  simp only[sX]at q1;have i1:=AO r.file;have i2:=AO r.state;have i3:=AO r.force;obtain⟨X1,hX1⟩:∃X1,[r.file,r.state,r.force].flatMap AN=X1:=⟨_,rfl⟩;have l1:X1.length≤30:=by rw[←hX1];simp;omega
  rw[hX1]at q1;have q2:=λh hq=>cP (A8 r.claims) hB (by omega) h 1 X1 hq (by omega);obtain⟨X2,hX2⟩:∃X2,X1++AY (A8 r.claims)=X2:=⟨_,rfl⟩;have l2:X2.length≤2^41:=by rw[←hX2,qG];omega
  rw[hX2]at q2;have q3:=λh hq=>Qh [(r.dates.length:Int)] (by intro n hn;simp at hn;subst hn;unfold i64;omega) (by simp) h 1 X2 hq (by omega);obtain⟨X3,hX3⟩:∃X3,X2++[(r.dates.length:Int)].flatMap AN=X3:=⟨_,rfl⟩;have i4:=AO r.dates.length;have l3:X3.length≤2^41+10:=by rw[←hX3];simp;omega
  rw[hX3]at q3;have q4:=λC J=>et C r.dates hr.dates hld X3 (by omega) J;have i5:=Cr D1 r.dates;obtain⟨X4,hX4⟩:∃X4,X3++r.dates.flatMap CE=X4:=⟨_,rfl⟩;have l4:X4.length≤2^41+2^37:=by rw[←hX4,qG];omega
  rw[hX4]at q4;have q5:=λh hq=>Ub r.bad hr.bad (by omega) h 1 X4 hq (by omega);have i6:=Au r.bad;have i7:=Aw r.bad.length;obtain⟨X5,hX5⟩:∃X5,X4++Ah r.bad=X5:=⟨_,rfl⟩;have l5:X5.length≤2^41+2^38:=by rw[←hX5,qG,Ah,qG];omega
  rw[hX5]at q5;have q6:=λh hq=>Qh [(r.owners.length:Int)] (by intro n hn;simp at hn;subst hn;unfold i64;omega) (by simp) h 1 X5 hq (by omega);obtain⟨X6,hX6⟩:∃X6,X5++[(r.owners.length:Int)].flatMap AN=X6:=⟨_,rfl⟩;have i8:=AO r.owners.length;have l6:X6.length≤2^41+2^38+10:=by rw[←hX6];simp;omega
  rw[hX6]at q6;have q7:=λC J=>ep C r.owners hr.owners hlo X6 (by omega) J;have i9:=Cr Dz r.owners;obtain⟨X7,hX7⟩:∃X7,X6++r.owners.flatMap CB=X7:=⟨_,rfl⟩;have l7:X7.length≤2^41+2^39:=by rw[←hX7,qG];omega
  rw[hX7]at q7;have q8:=λh hq=>Qh [(r.lics.length:Int)] (by intro n hn;simp at hn;subst hn;unfold i64;omega) (by simp) h 1 X7 hq (by omega);obtain⟨X8,hX8⟩:∃X8,X7++[(r.lics.length:Int)].flatMap AN=X8:=⟨_,rfl⟩;have i10:=AO r.lics.length;have l8:X8.length≤2^41+2^39+10:=by rw[←hX8];simp;omega
  rw[hX8]at q8;have q9:=λC J=>eo C r.lics hr.lics hll X8 (by omega) J;have i11:=Cr D0 r.lics;obtain⟨X9,hX9⟩:∃X9,X8++r.lics.flatMap CC=X9:=⟨_,rfl⟩;have l9:X9.length≤2^42:=by rw[←hX9,qG];omega
  rw[hX9]at q9;have hRX:X9=R:=by
   rw[←hR,←hX9,←hX8,←hX7,←hX6,←hX5,←hX4,←hX3,←hX2,←hX1];simp[Bg]
  rw[hRX]at q9 l9;simp[AH]at p2 q1 q2 q3 q5 q6 q8;simp only[Zw,At 51,AA 51 0,AA 51 1,AV];simp[Rgt.V,Rgt.cs,AH]at p1 ⊢;refine⟨_,_,p1 _,?_⟩;simp[AB,AA 51 3,AA 51 4];simp[AA 51 5,D.vs?,D.v?];refine⟨_,_,(q1 _ rfl),?_⟩;simp[AA 51 6];refine⟨_,_,p2 _,?_⟩;simp[AA 51 7];refine⟨_,_,(q2 _ rfl),?_⟩;simp[AA 51 8,D.vs?,D.v?];refine⟨_,_,(q3 _ rfl),?_⟩;simp[AA 51 9];refine AZ _ ?_ (q4 _ _);rintro e ⟨se,sh⟩ ⟨rfl,f1,f4,f5,J2,hh⟩;simp only at f1 f4 f5 hh;subst hh;simp[AA 51 14,f1,f4,f5];refine⟨_,_,(q5 _ rfl),?_⟩;simp[AA 51 15,D.vs?,D.v?];refine⟨_,_,(q6 _ rfl),?_⟩;simp[AA 51 16];refine AZ _ ?_ (q7 _ _);rintro e ⟨se,sh⟩ ⟨rfl,f1,f4,f5,J2,hh⟩;simp only at f1 f4 f5 hh;subst hh;simp[AA 51 21,f1,f4,f5,D.vs?,D.v?];refine⟨_,_,(q8 _ rfl),?_⟩;simp[AA 51 22];refine AZ _ ?_ (q9 _ _);rintro e ⟨se,sh⟩ ⟨rfl,f4,f5,J2,hh⟩;simp only at f4 f5 hh;subst hh;simp[AA 51 27,f4];refine⟨_,_,(Sp _ 1 R rfl (by omega)),?_⟩;simp[AD,AX 51]
end Go.Va
