/- Part 8 of the proof that ExtractOther returns true for every input and leaves its arguments alone. Condition: the variable that the row lists holds what the text of the program lays. Texts joined here: VwCd VwBf VwBd VwBe VwBh VwBg VwEb VxN VyA VyB VyC VxM VxO VxA VxB VcM VxC VxD VyD VxE VxF VyE VyF VyG VyH VyI VaW VyJ VyO VyP VyQ VyN VaV VyS VzA VzB VyV VzC VyZ VzD VzE VwEc VwEd VzF VyR. -/
import Derived.KernelRfl
import Derived.Shelf.Spec.SlicesGrow
import Derived.Test.YtopldfpkgbkomaaGreatDoorL02
import Derived.Test.YtopldfpkgbkomaaGreatDoorL03
import Derived.Test.YtopldfpkgbkomaaGreatDoorL06
import Derived.Test.YtopldfpkgbkomaaGreatDoorL07
set_option linter.all false
set_option maxRecDepth 100000
namespace Go.Va
open Go.Proofs
theorem Oq (d:Dat):[d.cl,d.ix,d.day,d.file].flatMap Af=B8 d:=by simp[B8]
theorem On (d:Own):[d.party,d.num,d.den].flatMap Af=By d:=by simp[By]
theorem Oo (d:Lic):[d.fr,d.to,d.fst,d.lst].flatMap Af=Bz d:=by simp[Bz]
theorem Dk {α:Type} {f:α→List Int} (hf:∀x,(f x).length≤40):∀l:List α,(l.flatMap f).length≤40*l.length
 |[]=>by simp
 |x::l=>by
  have:=hf x;have:=Dk hf l;simp only[AUN,AT5,AUO];omega
theorem FZ (d:Dat):(B8 d).length≤40:=by
 have:=Am d.cl;have:=Am d.ix;have:=Am d.day;have:=Am d.file;simp only[B8,AT5];omega
theorem FU (d:Own):(By d).length≤40:=by
 have:=Am d.party;have:=Am d.num;have:=Am d.den;simp only[By,AT5];omega
theorem FW (d:Lic):(Bz d).length≤40:=by
 have:=Am d.fr;have:=Am d.to;have:=Am d.fst;have:=Am d.lst;simp only[Bz,AT5];omega
theorem AKC (C:Row) (ds:List Dat) (hds:∀d∈ds,d.ok) (hn:ds.length≤2^30) (X:List Int) (hX:X.length≤2^43) (J:List Row):
  awp Tryz.prog GLx (.loop aq) (λe s=>e= .exit 0∧AH s.e 1= .ref 0 0∧AH s.e 4= .ref 1 0∧AH s.e 5= .func 129 [.ref 1 0]∧∃J2,s.h=C::wr (X++ds.flatMap B8)::J2)
   ⟨[(1,.ref 0 0),(4,.ref 1 0),(5,.func 129 [.ref 1 0]),(42,.v (.list (ds.map Dat.V))),(43,.v (.int .i64 ds.length)),(44,.v (.int .i64 0))],C::wr X::J⟩:=by
 refine Aa ds.length (λk s=>s.e=[(1,.ref 0 0),(4,.ref 1 0),(5,.func 129 [.ref 1 0]),(42,.v (.list (ds.map Dat.V))),(43,.v (.int .i64 ds.length)),(44,.v (.int .i64 k))]∧∃J2,s.h=C::wr (X++(ds.take k).flatMap B8)::J2) ⟨rfl,J,by simp⟩ ?_;rintro k ⟨se,sh⟩ hk ⟨he,J2,hh⟩;simp only at he hh;subst he hh;simp only[aq,AB,AA,AG,AE,af];simp;by_cases hlt:k <ds.length
 ·obtain⟨x,hx⟩:∃x,ds[k]?=some x:=⟨_,AT2 hlt⟩;have hxe:ds[k]=x:=(AT4.1 hx).2;have hw:IntKind.i64.wrap ((k:Int)+1)=k+1:=AJ;have hle:=Dk FZ (ds.take k);have ht:(ds.take k).length=k:=by simp;omega
  have e:(ds.take (k+1)).flatMap B8=(ds.take k).flatMap B8++B8 x:=by rw[DJ hlt,hxe]
  have hp:=λh hr=>Pg [x.cl,x.ix,x.day,x.file] (by
    intro n hn;simp at hn;rcases hn with rfl|rfl|rfl|rfl
    ·exact(hds x (AT3 hx)).1
    ·exact(hds x (AT3 hx)).2.1
    ·exact(hds x (AT3 hx)).2.2.1
    ·exact(hds x (AT3 hx)).2.2.2) (by simp) h 1 (X++(ds.take k).flatMap B8) hr (by rw[AT5];omega)
  rw[Oq]at hp;simp[AL]at hp;rw[if_pos (by omega),AD];simp only[AA,ae,aZ];simp[hx,Dat.V,AN,D.vs?,D.v?];refine⟨_,_,(hp _ rfl),?_⟩;simp[aY,hw,hlt,e]
 ·have:k=ds.length:=by omega
  subst this;rw[if_neg (by omega),AM];simp
theorem AKB (C:Row) (ds:List Own) (hds:∀d∈ds,d.ok) (hn:ds.length≤2^30) (X:List Int) (hX:X.length≤2^43) (J:List Row):
  awp Tryz.prog GLx (.loop ap) (λe s=>e= .exit 2∧AH s.e 1= .ref 0 0∧AH s.e 4= .ref 1 0∧AH s.e 5= .func 129 [.ref 1 0]∧∃J2,s.h=C::wr (X++ds.flatMap By)::J2)
   ⟨[(1,.ref 0 0),(4,.ref 1 0),(5,.func 129 [.ref 1 0]),(72,.v (.list (ds.map Own.V))),(73,.v (.int .i64 ds.length)),(74,.v (.int .i64 0))],C::wr X::J⟩:=by
 refine Aa ds.length (λk s=>s.e=[(1,.ref 0 0),(4,.ref 1 0),(5,.func 129 [.ref 1 0]),(72,.v (.list (ds.map Own.V))),(73,.v (.int .i64 ds.length)),(74,.v (.int .i64 k))]∧∃J2,s.h=C::wr (X++(ds.take k).flatMap By)::J2) ⟨rfl,J,by simp⟩ ?_;rintro k ⟨se,sh⟩ hk ⟨he,J2,hh⟩;simp only at he hh;subst he hh;simp only[ap,AB,AA,AG,AE,aU];simp;by_cases hlt:k <ds.length
 ·obtain⟨x,hx⟩:∃x,ds[k]?=some x:=⟨_,AT2 hlt⟩;have hxe:ds[k]=x:=(AT4.1 hx).2;have hw:IntKind.i64.wrap ((k:Int)+1)=k+1:=AJ;have hle:=Dk FU (ds.take k);have ht:(ds.take k).length=k:=by simp;omega
  have e:(ds.take (k+1)).flatMap By=(ds.take k).flatMap By++By x:=by rw[DJ hlt,hxe]
  have hp:=λh hr=>Pg [x.party,x.num,x.den] (by
    intro n hn;simp at hn;rcases hn with rfl|rfl|rfl
    ·exact(hds x (AT3 hx)).1
    ·exact(hds x (AT3 hx)).2.1
    ·exact(hds x (AT3 hx)).2.2) (by simp) h 1 (X++(ds.take k).flatMap By) hr (by rw[AT5];omega)
  rw[On]at hp;simp[AL]at hp;rw[if_pos (by omega),AD];simp only[AA,aT,aS];simp[hx,Own.V,AN,D.vs?,D.v?];refine⟨_,_,(hp _ rfl),?_⟩;simp[aR,hw,hlt,e]
 ·have:k=ds.length:=by omega
  subst this;rw[if_neg (by omega),AM];simp
theorem AKA (C:Row) (ds:List Lic) (hds:∀d∈ds,d.ok) (hn:ds.length≤2^30) (X:List Int) (hX:X.length≤2^43) (J:List Row):
  awp Tryz.prog GLx (.loop am) (λe s=>e= .exit 4∧AH s.e 4= .ref 1 0∧AH s.e 5= .func 129 [.ref 1 0]∧∃J2,s.h=C::wr (X++ds.flatMap Bz)::J2)
   ⟨[(4,.ref 1 0),(5,.func 129 [.ref 1 0]),(97,.v (.list (ds.map Lic.V))),(98,.v (.int .i64 ds.length)),(99,.v (.int .i64 0))],C::wr X::J⟩:=by
 refine Aa ds.length (λk s=>s.e=[(4,.ref 1 0),(5,.func 129 [.ref 1 0]),(97,.v (.list (ds.map Lic.V))),(98,.v (.int .i64 ds.length)),(99,.v (.int .i64 k))]∧∃J2,s.h=C::wr (X++(ds.take k).flatMap Bz)::J2) ⟨rfl,J,by simp⟩ ?_;rintro k ⟨se,sh⟩ hk ⟨he,J2,hh⟩;simp only at he hh;subst he hh;simp only[am,AB,AA,AG,AE,aO];simp;by_cases hlt:k <ds.length
 ·obtain⟨x,hx⟩:∃x,ds[k]?=some x:=⟨_,AT2 hlt⟩;have hxe:ds[k]=x:=(AT4.1 hx).2;have hw:IntKind.i64.wrap ((k:Int)+1)=k+1:=AJ;have hle:=Dk FW (ds.take k);have ht:(ds.take k).length=k:=by simp;omega
  have e:(ds.take (k+1)).flatMap Bz=(ds.take k).flatMap Bz++Bz x:=by rw[DJ hlt,hxe]
  have hp:=λh hr=>Pg [x.fr,x.to,x.fst,x.lst] (by
    intro n hn;simp at hn;rcases hn with rfl|rfl|rfl|rfl
    ·exact(hds x (AT3 hx)).1
    ·exact(hds x (AT3 hx)).2.1
    ·exact(hds x (AT3 hx)).2.2.1
    ·exact(hds x (AT3 hx)).2.2.2) (by simp) h 1 (X++(ds.take k).flatMap Bz) hr (by rw[AT5];omega)
  rw[Oo]at hp;simp[AL]at hp;rw[if_pos (by omega),AD];simp only[AA,aN,aM];simp[hx,Lic.V,AN,D.vs?,D.v?];refine⟨_,_,(hp _ rfl),?_⟩;simp[aL,hw,hlt,e]
 ·have:k=ds.length:=by omega
  subst this;rw[if_neg (by omega),AM];simp
set_option maxHeartbeats 1000000 in
theorem p51 (r:Rgt) (hr:r.ok):PX 51 [r.V] [AL .u8 (if Au r then Az r else []),.int .i64 (if Au r then 0 else 1)]:=by
 refine AK k51 rfl ?_;have p1:=(Ph r hr).fsp;have hlb:=hr.lb;have hld:=hr.ld;have hlo:=hr.lo;have hll:=hr.ll;have henc:=hr.enc;have hcl:Au r=true→CR r.claims=0:=by
  intro h;unfold Au at h;simp at h;exact h.1.1.1.1.1.1.2
 have p2:=(AJt r.claims hr.claims (by have:=hr.lc;omega) henc).fsp;cases hf:Au r with
 |false=>
  rw[hf]at p1;simp only[c51,AB,AA,AE,aj,ah,AY];simp[Rgt.V,Rgt.cs]at p1 ⊢;refine⟨_,_,p1 _,?_⟩;simp[AB,AA,AF,ABQ,vS,AL]
 |true=>
  rw[hf]at p1;rw[hcl hf]at p2;simp at p2;have hres:Az r=Az r:=rfl;obtain⟨R,hR⟩:∃R,Az r=R:=⟨_,rfl⟩;rw[hR];have hB:=isB.encClms hr.claims (by have:=hr.lc;omega) (by omega);have hraw:(BN (BP r.claims)).length≤2^40:=by have:=DP (BP r.claims).length;simp only[BN,AT5];omega
  have q1:=λh hq=>Pg [r.file,r.state,r.force] (by intro n hn;simp at hn;rcases hn with rfl|rfl|rfl;exact hr.file;exact hr.state;exact hr.force) (by simp) h 1 [] hq (by simp)
  simp only[AWM]at q1;have i1:=Am r.file;have i2:=Am r.state;have i3:=Am r.force;obtain⟨X1,hX1⟩:∃X1,[r.file,r.state,r.force].flatMap Af=X1:=⟨_,rfl⟩;have l1:X1.length≤30:=by rw[←hX1];simp;omega
  rw[hX1]at q1;have q2:=λh hq=>p99 (BP r.claims) hB (by omega) h 1 X1 hq (by omega);obtain⟨X2,hX2⟩:∃X2,X1++BN (BP r.claims)=X2:=⟨_,rfl⟩;have l2:X2.length≤2^41:=by rw[←hX2,AT5];omega
  rw[hX2]at q2;have q3:=λh hq=>Pg [(r.dates.length:Int)] (by intro n hn;simp at hn;subst hn;unfold i64;omega) (by simp) h 1 X2 hq (by omega);obtain⟨X3,hX3⟩:∃X3,X2++[(r.dates.length:Int)].flatMap Af=X3:=⟨_,rfl⟩;have i4:=Am r.dates.length;have l3:X3.length≤2^41+10:=by rw[←hX3];simp;omega
  rw[hX3]at q3;have q4:=λC J=>AKC C r.dates hr.dates hld X3 (by omega) J;have i5:=Dk FZ r.dates;obtain⟨X4,hX4⟩:∃X4,X3++r.dates.flatMap B8=X4:=⟨_,rfl⟩;have l4:X4.length≤2^41+2^37:=by rw[←hX4,AT5];omega
  rw[hX4]at q4;have q5:=λh hq=>AEn r.bad hr.bad (by omega) h 1 X4 hq (by omega);have i6:=Ce r.bad;have i7:=DP r.bad.length;obtain⟨X5,hX5⟩:∃X5,X4++BJ r.bad=X5:=⟨_,rfl⟩;have l5:X5.length≤2^41+2^38:=by rw[←hX5,AT5,BJ,AT5];omega
  rw[hX5]at q5;have q6:=λh hq=>Pg [(r.owners.length:Int)] (by intro n hn;simp at hn;subst hn;unfold i64;omega) (by simp) h 1 X5 hq (by omega);obtain⟨X6,hX6⟩:∃X6,X5++[(r.owners.length:Int)].flatMap Af=X6:=⟨_,rfl⟩;have i8:=Am r.owners.length;have l6:X6.length≤2^41+2^38+10:=by rw[←hX6];simp;omega
  rw[hX6]at q6;have q7:=λC J=>AKB C r.owners hr.owners hlo X6 (by omega) J;have i9:=Dk FU r.owners;obtain⟨X7,hX7⟩:∃X7,X6++r.owners.flatMap By=X7:=⟨_,rfl⟩;have l7:X7.length≤2^41+2^39:=by rw[←hX7,AT5];omega
  rw[hX7]at q7;have q8:=λh hq=>Pg [(r.lics.length:Int)] (by intro n hn;simp at hn;subst hn;unfold i64;omega) (by simp) h 1 X7 hq (by omega);obtain⟨X8,hX8⟩:∃X8,X7++[(r.lics.length:Int)].flatMap Af=X8:=⟨_,rfl⟩;have i10:=Am r.lics.length;have l8:X8.length≤2^41+2^39+10:=by rw[←hX8];simp;omega
  rw[hX8]at q8;have q9:=λC J=>AKA C r.lics hr.lics hll X8 (by omega) J;have i11:=Dk FW r.lics;obtain⟨X9,hX9⟩:∃X9,X8++r.lics.flatMap Bz=X9:=⟨_,rfl⟩;have l9:X9.length≤2^42:=by rw[←hX9,AT5];omega
  rw[hX9]at q9;have hRX:X9=R:=by
   rw[←hR,←hX9,←hX8,←hX7,←hX6,←hX5,←hX4,←hX3,←hX2,←hX1];simp[Az]
  rw[hRX]at q9 l9;simp[AL]at p2 q1 q2 q3 q5 q6 q8;simp only[c51,AB,AA,AG,AE,aj,ah,AY];simp[Rgt.V,Rgt.cs,AL]at p1 ⊢;refine⟨_,_,p1 _,?_⟩;simp[AD,AA,ABP,ABO,D.vs?,D.v?];simp[ABN,D.vs?,D.v?];refine⟨_,_,(q1 _ rfl),?_⟩;simp[ABM];refine⟨_,_,p2 _,?_⟩;simp[ABL];refine⟨_,_,(q2 _ rfl),?_⟩;simp[ABK,D.vs?,D.v?];refine⟨_,_,(q3 _ rfl),?_⟩;simp[ABJ];refine Ag _ ?_ (q4 _ _);rintro e ⟨se,sh⟩ ⟨rfl,f1,f4,f5,J2,hh⟩;simp only at f1 f4 f5 hh;subst hh;simp[aX,f1,f4,f5];refine⟨_,_,(q5 _ rfl),?_⟩;simp[aW,f5,D.vs?,D.v?,f1,f4];refine⟨_,_,(q6 _ rfl),?_⟩;simp[aV];refine Ag _ ?_ (q7 _ _);rintro e ⟨se,sh⟩ ⟨rfl,f1,f4,f5,J2,hh⟩;simp only at f1 f4 f5 hh;subst hh;simp[aQ,f1,f4,f5,D.vs?,D.v?];refine⟨_,_,(q8 _ rfl),?_⟩;simp[aP];refine Ag _ ?_ (q9 _ _);rintro e ⟨se,sh⟩ ⟨rfl,f4,f5,J2,hh⟩;simp only at f4 f5 hh;subst hh;simp[aK,f4,f5];refine⟨_,_,(AEm _ 1 R rfl (by omega)),?_⟩;simp[AF,vS]
def lfP (ps:List (Int×List Int)) (k:Int):Option Int:=(ps.find? λp=>p.1==k).map λp=>C7 p.1 p.2
theorem Row.low_mono {n m:Nat} (h:n≤m) {row:Row} (hr:Row.low n row=true):Row.low m row=true:=by
 cases row with
 |cells ds=>
  simp only[Row.low]at hr ⊢;exact EB λd hd=>by
   obtain⟨i,hi⟩:=AWZ hd;exact Dz h d (Eh hr hi)
 |_=>exact hr
theorem HM.row_new {m:HM} {k:Int×Int} (v:Int) (h:(m.E.findIdx? λx=>x.1==k)=none):(m.set k v).row= .map (m.E.map LB++[LB (k,v)]) (m.st++[m.ck]) (m.ck+1):=by
 have h1:m.get k=none:=by rw[HM.get,Dw,h];rfl
 have h2:=GD k v m.E;rw[h]at h2;simp[HM.set,h1,HM.row,h2]
theorem HM.row_old {m:HM} {k:Int×Int} {i:Nat} (v:Int) (h:(m.E.findIdx? λx=>x.1==k)=some i):(m.set k v).row= .map ((m.E.map LB).set i (LB (k,v))) m.st m.ck:=by
 have hlt:=(AVj.1 h).1;have h1:m.get k=some (m.E[i]).2:=by rw[HM.get,Dw,h];simp[hlt]
 have h2:=GD k v m.E;rw[h]at h2;simp[HM.set,h1,HM.row,h2,List.map_set]
structure PF (h:List Row) (q:Nat) (m:HM) (c x:Nat) (w j n:Int) (H:List Row):Prop where
 pre:H.take h.length=h.set q m.row
 hc:H[c]?=some (.cells [.v (.int .u64 w),.v (.bool true)])
 hx:H[x]?=some (.cells [.v (.int .i64 j),.v (.int .i64 n)])
 lc:h.length≤c
 lx:h.length≤x
 ne:c≠x
 low:∀row∈H.drop h.length,Row.low 0 row=true
section
variable {h:List Row} {q:Nat} {m:HM} {c x:Nat} {w j n:Int} {H:List Row}
theorem PF.len (hF:PF h q m c x w j n H):h.length≤H.length:=Nat.le_of_lt (Nat.lt_of_le_of_lt hF.lc (CE hF.hc))
theorem PF.get (hF:PF h q m c x w j n H) {i:Nat} (hi:i <h.length):H[i]?=(h.set q m.row)[i]?:=by
 rw[←hF.pre,AUV,if_pos hi]
theorem PF.gq (hF:PF h q m c x w j n H) {y:Row} (hq:h[q]?=some y):H[q]?=some m.row:=by
 rw[hF.get (CE hq),BX hq]
theorem PF.gr (hF:PF h q m c x w j n H) {r:Nat} {y:Row} (hr:h[r]?=some y) (hn:r≠q):H[r]?=some y:=by
 rw[hF.get (CE hr),AUJ (Ne.symm hn)];exact hr
theorem PF.app (hF:PF h q m c x w j n H) {row:Row} (hl:Row.low 0 row=true):PF h q m c x w j n (H++[row]) where
 pre:=by rw[AV3 hF.len];exact hF.pre
 hc:=AO _ hF.hc
 hx:=AO _ hF.hx
 lc:=hF.lc
 lx:=hF.lx
 ne:=hF.ne
 low:=by
  rw[List.drop_append_of_le_length hF.len];intro row hr;rcases AUK.1 hr with hr|hr
  ·exact hF.low row hr
  ·simp at hr;subst hr;exact hl
theorem JO {L c:Nat} {y:Row} (h:L≤c):(H.set c y).drop L=(H.drop L).set (c-L) y:=by
 rw[List.drop_set,if_neg (by omega)]
theorem PF.setc (hF:PF h q m c x w j n H) (w':Int):PF h q m c x w' j n (H.set c (.cells [.v (.int .u64 w'),.v (.bool true)])) where
 pre:=by rw[List.take_set,List.set_eq_of_length_le (by simp;have:=hF.lc;omega)];exact hF.pre
 hc:=BX hF.hc
 hx:=by rw[AUJ hF.ne];exact hF.hx
 lc:=hF.lc
 lx:=hF.lx
 ne:=hF.ne
 low:=by
  rw[JO hF.lc];intro row hr;rcases AUv hr with hr|rfl
  ·exact hF.low row hr
  ·rfl
theorem PF.setx (hF:PF h q m c x w j n H) (j' n':Int):PF h q m c x w j' n' (H.set x (.cells [.v (.int .i64 j'),.v (.int .i64 n')])) where
 pre:=by rw[List.take_set,List.set_eq_of_length_le (by simp;have:=hF.lx;omega)];exact hF.pre
 hc:=by rw[AUJ (Ne.symm hF.ne)];exact hF.hc
 hx:=BX hF.hx
 lc:=hF.lc
 lx:=hF.lx
 ne:=hF.ne
 low:=by
  rw[JO hF.lx];intro row hr;rcases AUv hr with hr|rfl
  ·exact hF.low row hr
  ·rfl
theorem PF.newx (hF:PF h q m c x w j n H) (j' n':Int):PF h q m c H.length w j' n' (H++[.cells [.v (.int .i64 j'),.v (.int .i64 n')]]):=
 have hA:=hF.app (row:= .cells [.v (.int .i64 j'),.v (.int .i64 n')]) rfl
 {pre:=hA.pre,hc:=hA.hc,hx:=FQ _ _,lc:=hF.lc,lx:=hF.len,ne:=Nat.ne_of_lt (CE hF.hc),low:=hA.low}
theorem PF.setq (hF:PF h q m c x w j n H) (hq:q <h.length) (m':HM):PF h q m' c x w j n (H.set q m'.row) where
 pre:=by rw[List.take_set,hF.pre,AVB]
 hc:=by rw[AUJ (by have:=hF.lc;omega)];exact hF.hc
 hx:=by rw[AUJ (by have:=hF.lx;omega)];exact hF.hx
 lc:=hF.lc
 lx:=hF.lx
 ne:=hF.ne
 low:=by rw[List.drop_set_of_lt hq];exact hF.low
theorem PF.all (hF:PF h q m c x w j n H) (hl:∀row∈h,Row.low h.length row=true):∀row∈H,Row.low H.length row=true:=by
 intro row hr;rw[←AUr h.length H]at hr;rcases AUK.1 hr with hr|hr
 ·rw[hF.pre]at hr;rcases AUv hr with hr|rfl
  ·exact Row.low_mono hF.len (hl row hr)
  ·rfl
 ·exact Row.low_mono (AU6 _) (hF.low row hr)
end
theorem AKW (h:List Row) (r q:Nat) (d:D) (y:Row) (hr:h[r]?=some (.cells [d,.mref q])) (hq:h[q]?=some y) (hn:r≠q) (hl:∀row∈h,Row.low h.length row=true)
  {m:HM} {c x:Nat} {w n v:Int} {j:Nat} {H:List Row} (hF:PF h q m c x w j n H) (hj:j≤12) (hn0:0≤n) (hn1:n≤4096)
  (hv:(j=0∧w=v)∨(0 <j∧ER (m.get ((j:Int)-1,2*n)) (m.get ((j:Int)-1,2*n+1))=some v)) (Q:AExit→St→Prop)
  (hQ:∀e' H',AH e' 0= .ref r 0→AH e' 5= .ref c 0→AH e' 6= .ref x 0→PF h q m c x v j n H'→Q .normal ⟨e',H'⟩):
  awp Tryz.prog GLx (.seq (.reg SL [0,5,6,20]) (.cond (.t 20 false) (.seq (.reg SK [0,5,6,7,8]) (.regA SJ [0,5,6] [[],[],[0,1],[],[],[0,1,2,3,4],[0,1,2,3,4,5],[0,1,2,3,4,5,6]] (.take 0 (.take 1 (.take 3 (.take 4 (.take 2 (.take 5 (.take 6 (.take 7 .done)))))))))) .skip)) Q
   ⟨[(0,.ref r 0),(5,.ref c 0),(6,.ref x 0)],H⟩:=by
 simp only[AB,AA,AE,SL];simp[hF.hx];rcases hv with ⟨rfl,rfl⟩|⟨h0,hv⟩
 ·simp[AD];exact hQ _ H rfl rfl rfl hF
 ·rw[if_pos h0];have p1:=(AJq j n ⟨by omega,by omega⟩ ⟨hn0,hn1⟩).fsp;simp[Ew]at p1;simp only[SK];simp[hF.hx];refine⟨_,_,p1 _,?_⟩;simp[AN];have hF2:=(hF.app (row:= .cells [.v (.int .i64 (j-1)),.v (.int .i64 (2*n))]) rfl).app (row:= .cells [.v (.int .i64 (j-1)),.v (.int .i64 (2*n+1))]) rfl;simp only[AUB,AUx,AWM]at hF2;have g1:=AJi _ r q m (j-1) (2*n) d (hF2.gr hr hn) (hF2.gq hq) (hF2.all hl);have g2:=AJi _ r q m (j-1) (2*n+1) d (hF2.gr hr hn) (hF2.gq hq) (hF2.all hl);have g3:=AJp (m.get (j-1,2*n)) (m.get (j-1,2*n+1));rw[hv]at g3;have e3:Ex (some v)= .agg [.int .u64 v,.bool true]:=rfl;rw[e3]at g3;have hF3:=hF2.setc v;have hcc:=hF2.hc;generalize Ex (m.get (j-1,2*n))=s1 at*;generalize Ex (m.get (j-1,2*n+1))=s2 at*;simp only[Ew]at g1 g2;rw[BO];refine BG _ (λs hs=>⟨s,.inl rfl,hs⟩) ?_;simp only[SJ];simp;refine⟨_,_,g1,⟨[],by simp⟩,?_⟩;simp;refine⟨_,_,g2,⟨[],by simp⟩,?_⟩;simp;refine⟨_,_,⟨rfl,rfl⟩,_,g3,?_⟩;simp[hcc,AN];exact hQ _ _ rfl rfl rfl hF3
theorem AKV (h:List Row) (r q:Nat) (d:D) (y:Row) (hr:h[r]?=some (.cells [d,.mref q])) (hq:h[q]?=some y) (hn:r≠q)
  {m:HM} {c x:Nat} {n v:Int} {j:Nat} {H:List Row} {e:Env} (f0:AH e 0= .ref r 0) (f5:AH e 5= .ref c 0) (f6:AH e 6= .ref x 0) (hF:PF h q m c x v j n H) (Q:AExit→St→Prop)
  (hret:j=12→n=0→∀e2 H2,PF h q (m.set ((j:Int),n) v) c x v j n H2→Q .ret ⟨e2,H2⟩)
  (hgo:¬((j:Int)=12∧n=0)→∀e2 H2,AH e2 5= .ref c 0→AH e2 6= .ref x 0→AH e2 0= .ref r 0→PF h q (m.set ((j:Int),n) v) c x v j n H2→Q .normal ⟨e2,H2⟩):
  awp Tryz.prog GLx (.seq (.seq (.reg SI [0,5,6,34]) (.cond (.t 34 false) (.regD SH [0,5,6] [[],[0],[0,1],[0,1,2],[],[],[5],[0,1,2,3,4,5,6]]) (.regD r5 [0,5,6] [[],[0],[0,1],[0,1,2],[],[0,1,2,3,4]])))
   (.seq (.reg NK [0,5,6,49]) (.cond (.t 49 false) .ret .skip))) Q ⟨e,H⟩:=by
 have hmf:=Jo j n m.E;have hqq:H[q]?=some (.map (m.E.map LB) m.st m.ck):=hF.gq hq;have hrr:=hF.gr hr hn;have hc:=hF.hc;have hx:=hF.hx;have hF2:=hF.setq (CE hq) (m.set ((j:Int),n) v);have hx2:=hF2.hx;have eq2:=Xt j n 12 0;simp only[AB,AA,AE,SI];simp[f0,f5,f6,hc];simp only[AW,SH];simp[hrr,hc,hx,hqq,hmf,BL,V.eqL,V.eq1];have fin:∀row,row=(m.set ((j:Int),n) v).row→BE Tryz.prog GLx NK (λs'=>match (AH s'.e 49).copy with
   | .v (.bool t)=>if t then awp Tryz.prog GLx .ret Q ⟨[(0,AH s'.e 0),(5,AH s'.e 5),(6,AH s'.e 6),(49,AH s'.e 49)],s'.h⟩ else awp Tryz.prog GLx .skip Q ⟨[(0,AH s'.e 0),(5,AH s'.e 5),(6,AH s'.e 6),(49,AH s'.e 49)],s'.h⟩
   |_=>False) ⟨[(0,.ref r 0),(5,.ref c 0),(6,.ref x 0)],H.set q row⟩:=by
  rintro row rfl;simp only[NK];simp[hx2,eq2];by_cases hd:(j:Int)=12∧n=0
  ·rw[if_pos hd];exact hret (by omega) hd.2 _ _ hF2
  ·rw[if_neg hd];exact hgo hd _ _ rfl rfl rfl hF2
 cases hi:m.E.findIdx? (λx=>x.fst==((j:Int),n))with
 |none=>
  simp;exact fin _ (HM.row_new v hi).symm
 |some i=>
  simp;exact fin _ (HM.row_old v hi).symm
theorem AKU (h:List Row) (q:Nat) {m:HM} {c x r:Nat} {n v:Int} {j:Nat} {H:List Row} {e:Env} (f0:AH e 0= .ref r 0) (f5:AH e 5= .ref c 0) (f6:AH e 6= .ref x 0) (hF:PF h q m c x v j n H)
  (hn0:0≤n) (hn1:n≤4096) (hj:j≤12) (Q:AExit→St→Prop)
  (hgo:∀H2,PF h q m c H.length v ((j+1:Nat):Int) (n/2) H2→Q .normal ⟨[(0,.ref r 0),(5,.ref c 0),(6,.ref H.length 0)],H2⟩):
  awp Tryz.prog GLx (.seq (.seq (.reg NM [0,5,50]) (.reg NL [0,5,6])) (.reg SM [0,5,6])) Q ⟨e,H⟩:=by
 have w1:IntKind.i64.wrap ((j:Int)+1)=((j+1:Nat):Int):=AJ;have w2:IntKind.i64.wrap (n/2)=n/2:=AJ;have hx:=hF.hx;have hF2:=(hF.newx j n).setx ((j+1:Nat):Int) (n/2);have e1:(H++[Row.cells [.v (.int .i64 j),.v (.int .i64 n)]]).set H.length (.cells [.v (.int .i64 ((j+1:Nat):Int)),.v (.int .i64 (n/2))])=H++[.cells [.v (.int .i64 ((j+1:Nat):Int)),.v (.int .i64 (n/2))]]:=uc _ _ _;rw[e1]at hF2;simp only[AB,AA,NM];simp[f0,f5,f6,hx];simp only[NL];simp[AN];simp only[SM];simp[AN,w1,AWr hn0,w2];exact hgo _ hF2
theorem ARi (h:List Row) (r q:Nat) (d:D) (y:Row) (hr:h[r]?=some (.cells [d,.mref q])) (hq:h[q]?=some y) (hn:r≠q) (hl:∀row∈h,Row.low h.length row=true)
  (n0 v0:Int) (m0:HM) (c0 x0:Nat) (H0:List Row) (hn0:0≤n0) (hn1:n0 <4096) (hF0:PF h q m0 c0 x0 v0 0 n0 H0):
   awp Tryz.prog GLx (.loop SN) (λe s=>e= .ret∧s.h.take h.length=h.set q (HD 12 0 n0 v0 m0).row) ⟨[(0,.ref r 0),(5,.ref c0 0),(6,.ref x0 0)],H0⟩:=by
 refine Aa 12 (λj s=>∃(n v w:Int) (m:HM) (c x:Nat),s.e=[(0,.ref r 0),(5,.ref c 0),(6,.ref x 0)]∧0≤n∧n <((2^(12-j):Nat):Int)∧PF h q m c x w j n s.h∧
   ((j=0∧w=v)∨(0 <j∧ER (m.get ((j:Int)-1,2*n)) (m.get ((j:Int)-1,2*n+1))=some v))∧HD (12-j) j n v m=HD 12 0 n0 v0 m0) ⟨n0,v0,v0,m0,c0,x0,rfl,hn0,by simpa using hn1,hF0,.inl ⟨rfl,rfl⟩,rfl⟩ ?_
 rintro j ⟨se,sh⟩ hj ⟨n,v,w,m,c,x,he,b0,b1,hF,hv,hR⟩;simp only at he hF;subst he;have hn2:n≤4096:=by
  have:2^(12-j)≤2^12:=AV6 (by decide) (by omega);have e:2^12=4096:=by decide
  omega
 rw[←hR];simp only[SN];rw[AB,AG,AB];refine AKW h r q d y hr hq hn hl hF hj b0 hn2 hv _ ?_;intro e' H' f0 f5 f6 hF';simp only[];refine AKV h r q d y hr hq hn f0 f5 f6 hF' _ ?_ ?_
 ·rintro rfl rfl e2 H2 hF2;exact⟨rfl,hF2.pre⟩
 ·intro hd e2 H2 g5 g6 g0 hF2;simp only[];have hjl:j <12:=by
   rcases AUS j 12 with h|h
   ·exact h
   ·exfalso;have:j=12:=by omega
    subst this;simp at b1;exact hd ⟨rfl,by omega⟩
  refine AKU h q g0 g5 g6 hF2 b0 hn2 hj _ ?_;intro H3 hF3;obtain⟨f,hf⟩:∃f,12-j=f+1:=⟨11-j,by omega⟩;have hf2:12-(j+1)=f:=by omega
  rw[hf]at b1 ⊢;rw[hf2];refine⟨hjl,n/2,(ER ((m.set ((j:Int),n) v).get ((j:Int),2*(n/2))) ((m.set ((j:Int),n) v).get ((j:Int),2*(n/2)+1))).getD 0,v,m.set ((j:Int),n) v,c,H2.length,rfl,by omega,?_,hF3,.inr ⟨by omega,?_⟩,?_⟩
  ·rw[Nat.pow_succ]at b1;omega
  ·have ej:((j+1:Nat):Int)-1=j:=by omega
   rw[ej];refine KS ?_;have h0:n%2=0∨n%2=1:=by omega
   rcases h0 with h0|h0
   ·exact .inl (by rw[HM.get_set,show 2*(n/2)=n by omega];simp)
   ·exact .inr (by rw[HM.get_set,show 2*(n/2)+1=n by omega];simp)
  ·rfl
theorem AQ5 (h:List Row) (r q:Nat) (d:D) (y:Row) (hr:h[r]?=some (.cells [d,.mref q])) (m:HM) (hq:h[q]?=some m.row) (hn:r≠q) (hl:∀row∈h,Row.low h.length row=true)
  (k v:Int) (h0:0≤k) (h1:k <4096):FX 132 [.ref r 0,.v (.int .i64 k),.v (Ex (some v))] h [] (h.set q (HD 12 0 k v m).row):=by
 refine Ai ALN rfl (by simp) ?_ (by simp) ?_
 ·intro row hrow;rw[AUt];rcases AUv hrow with hr|rfl
  ·exact hl row hr
  ·rfl
 have hF:PF h q m h.length (h.length+1) v 0 k (h++[.cells [.v (.int .u64 v),.v (.bool true)],.cells [.v (.int .i64 0),.v (.int .i64 k)]]):=by
  refine⟨?_,by simp,by simp,by omega,by omega,by omega,?_⟩
  ·rw[AV3 (AT6 _),AUc (AT6 _)];obtain⟨g1,g2⟩:=AT4.1 hq;rw[←g2,AWc]
  ·simp[Row.low,D.lts,D.lt]
 have hL:=ARi h r q d _ hr hq hn hl k v m _ _ _ h0 h1 hF;simp only[AIa,AB,AA,AG,sD,AS];simp[Ex];simp only[r9];simp[AN];refine Ag _ ?_ hL;rintro e s ⟨rfl,hs⟩;simp[sE];exact⟨s.h.drop h.length,by rw[←hs,AUr]⟩
structure KM where
 E:List (Int×List Int)
 st:List Nat
 ck:Nat
def GK (x:Int×List Int):V×V:=(.int .i64 x.1,AL .u8 x.2)
def KM.row (m:KM):Row:= .map (m.E.map GK) m.st m.ck
def KM.set (m:KM) (k:Int) (v:List Int):KM:=
 match m.E.findIdx? λx=>x.1==k with
 |none=>⟨m.E++[(k,v)],m.st++[m.ck],m.ck+1⟩
 |some i=>⟨m.E.set i (k,v),m.st,m.ck⟩
theorem Jn (a:Int):∀E:List (Int×List Int),CQ false [0] (.int .i64 a) (E.map GK)=some (E.findIdx? λx=>x.1==a)
 |[]=>rfl
 |x::E=>by
  obtain⟨c,v⟩:=x;have hk:BL false [0] (.int .i64 c)=true:=by simp[BL,V.eqL,V.eq1,V.cells]
  simp only[AUD,GK,CQ,hk,if_true,V.cells,V.eqL,V.eq1,AVh,Jn a E,AUy];have e:(c==a)=(a==c):=AU3.2 (by simp only[beq_iff_eq];exact eq_comm);rw[e];cases a==c<;>simp
theorem KM.row_new {m:KM} {k:Int} (v:List Int) (h:(m.E.findIdx? λx=>x.1==k)=none):(m.set k v).row= .map (m.E.map GK++[GK (k,v)]) (m.st++[m.ck]) (m.ck+1):=by
 simp[KM.set,h,KM.row]
theorem KM.row_old {m:KM} {k:Int} {i:Nat} (v:List Int) (h:(m.E.findIdx? λx=>x.1==k)=some i):(m.set k v).row= .map ((m.E.map GK).set i (GK (k,v))) m.st m.ck:=by
 simp[KM.set,h,KM.row,List.map_set]
theorem yH (xs:List Int) (hb:xs.length≤2^45):PX 117 [AL .u8 xs] [AL .u8 xs]:=by
 refine AK AE0 rfl ?_;have hroom:Ae xs.length 1=true:=by simp[Ae];omega
 cases xs with
 |nil=>simp[Wp,awp,Kq,Kp,Ko,Kn,Lt,AY,AL,Ae]
 |cons x xs=>simp[Wp,awp,Kq,Kp,Ko,Kn,Lt,AY,AL]at hroom ⊢;simp[hroom]
theorem p50 (h:List Row):FX 50 [] h [.ref (h.length+2) 0] (h++[KM.row ⟨[],[],0⟩,HM.row ⟨[],[],0⟩,.cells [.mref h.length,.mref (h.length+1)]]):=by
 refine AV k50 rfl ?_;simp[c50,awp,ABS,ABR,AFs,AS,AN,KM.row,HM.row]
def IZ (k:Int) (bs:List Int):Int:=if 0≤k∧k≤4095 then (if bs.length>65536 then 4 else 0) else 5
theorem p52 (h:List Row) (t a q:Nat) (K:KM) (m:HM) (ht:h[t]?=some (.cells [.mref a,.mref q])) (ha:h[a]?=some K.row) (hq:h[q]?=some m.row) (n1:t≠a) (n2:t≠q) (n3:a≠q)
  (hl:∀row∈h,Row.low h.length row=true) (k:Int) (bs:List Int) (hb:∀x∈bs,0≤x∧x <256) (hbl:bs.length≤2^39):
  FX 52 [.ref t 0,.v (.int .i64 k),.v (AL .u8 bs)] h [.v (.int .i64 (IZ k bs))] (if IZ k bs=0 then (h.set a (K.set k bs).row).set q (HD 12 0 k (C7 k bs) m).row else h):=by
 refine AV k52 rfl ?_;have p1:=(AEi k).fsp;simp at p1;by_cases hk:0≤k∧k≤4095
 ·have e1:(decide (0≤k)&&decide (k≤4095))=true:=by simpa using hk
  rw[e1]at p1;by_cases hbb:65536 <bs.length
  ·have hE:IZ k bs=4:=by simp[IZ,hk,hbb]
   have hbb':65536 <(bs.length:Int):=by omega
   rw[hE,if_neg (by decide)];simp only[c52,AB,AA,AG,AE,UB,UA,AS];simp[AL];refine⟨_,_,p1 _,?_⟩;simp[AB,AA,AE,aJ,hbb',AF,ABH,Wi]
  ·have hE:IZ k bs=0:=by simp[IZ,hk];omega
   have hbb':¬65536 <(bs.length:Int):=by omega
   have p2:=yH bs (by omega);have p3:=(AJs k bs hb hbl).fsp;simp[AL]at p2 p3;have hmf:=Jn k K.E;have ha':h[a]?=some (.map (K.E.map GK) K.st K.ck):=ha;rw[hE,if_pos rfl];obtain⟨HH,hHH⟩:∃HH,(h.set a (K.set k bs).row).set q (HD 12 0 k (C7 k bs) m).row=HH:=⟨_,rfl⟩;rw[hHH];simp only[c52,AB,AA,AG,AE,UB,UA,AS];simp[AL];refine⟨_,_,p1 _,?_⟩;simp[AB,AA,AE,aJ,hbb',AD];simp only[AW,ABG];simp[ht];refine⟨_,_,⟨rfl,rfl⟩,_,p2,?_⟩;simp[ha',hmf,BL,V.eqL,V.eq1];have fin:∀row,row=(K.set k bs).row→BE Tryz.prog GLx aI (λs'=>BE Tryz.prog GLx aH (λs'=>awp Tryz.prog GLx .ret (λe s=>(match e with| .exit _=>False|_=>True)∧De s Wi=some [.v (.int .i64 0)]∧s.h=HH) ⟨[(6,AH s'.e 6)],s'.h⟩) ⟨[],s'.h⟩)
     ⟨[(0,.ref t 0),(1,.v (.int .i64 k)),(2,.v (.list (bs.map (V.int .u8))))],h.set a row⟩:=by
    rintro row rfl;have hl2:∀row∈h.set a (K.set k bs).row,Row.low (h.set a (K.set k bs).row).length row=true:=by
     intro row hrow;rw[AUt];rcases AUv hrow with hr|rfl
     ·exact hl row hr
     ·rfl
    have p4:=AQ5 (h.set a (K.set k bs).row) t q (.mref a) .dead (by rw[AUJ (Ne.symm n1)];exact ht) m (by rw[AUJ n3];exact hq) n2 hl2 k (C7 k bs) hk.1 (by omega);simp only[aI];simp;refine⟨_,_,p3 _,?_⟩;simp[AN];simp[Ex]at p4;refine⟨_,_,p4,?_⟩;simp[aH,AF,Wi,hHH]
   cases hi:K.E.findIdx? (λx=>x.fst==k)with
   |none=>
    simp;exact fin _ (KM.row_new bs hi).symm
   |some i=>
    simp;exact fin _ (KM.row_old bs hi).symm
 ·have hE:IZ k bs=5:=by simp[IZ,hk]
  have e1:(decide (0≤k)&&decide (k≤4095))=false:=by simpa using hk
  rw[e1]at p1;rw[hE,if_neg (by decide)];simp only[c52,AB,AA,AG,AE,UB,UA,AS];simp[AL];refine⟨_,_,p1 _,?_⟩;simp[AB,AA,AF,ABI,Wi]
def E1 (r:Rgt):Int×List Int:=(r.file,Az r)
def kmL (l:List Rgt):KM:=l.foldl (λK r=>K.set r.file (Az r)) ⟨[],[],0⟩
def hmL (l:List Rgt):HM:=l.foldl (λm r=>HD 12 0 r.file (C7 r.file (Az r)) m) ⟨[],[],0⟩
def FK (l:List Rgt) (k:Nat):Int:=
 match l[k]? with
 |none=>0
 |some r=>if Au r then (if (l.take k).any (λq=>q.file==r.file) then 8 else IZ r.file (Az r)) else 1
theorem MB {l:List Rgt} {k:Nat} {r:Rgt} (h:l[k]?=some r):FK l k=if Au r then (if (l.take k).any (λq=>q.file==r.file) then 8 else IZ r.file (Az r)) else 1:=by simp[FK,h]
theorem TG {l:List Rgt} {k:Nat} {r:Rgt} (h:l[k]?=some r) (h0:FK l k=0):Au r=true∧(l.take k).any (λq=>q.file==r.file)=false∧IZ r.file (Az r)=0:=by
 rw[MB h]at h0;cases hf:Au r with
 |false=>rw[hf]at h0;simp at h0
 |true=>
  cases ha:(l.take k).any (λq=>q.file==r.file)with
  |true=>rw[hf,ha]at h0;simp at h0
  |false=>rw[hf,ha]at h0;simp at h0;exact⟨rfl,rfl,h0⟩
theorem IY {α:Type} {l:List α} {k:Nat} {x:α} (h:l[k]?=some x):l.take (k+1)=l.take k++[x]:=by rw[AUP,h];rfl
theorem KR (l:List Rgt) (r:Rgt):kmL (l++[r])=(kmL l).set r.file (Az r):=by simp[kmL]
theorem OW (l:List Rgt) (r:Rgt):hmL (l++[r])=HD 12 0 r.file (C7 r.file (Az r)) (hmL l):=by simp[hmL]
theorem GT (l:List Rgt) (k:Int):(l.map E1).findIdx? (λx=>x.1==k)=none↔l.any (λq=>q.file==k)=false:=by
 rw[AWn,AVg];simp[E1]
theorem yL {l:List Rgt}:∀k≤l.length,(∀j <k,FK l j=0)→(kmL (l.take k)).E=(l.take k).map E1
 |0,_,_=>by simp[kmL]
 |k+1,hk,h=>by
  obtain⟨r,hr⟩:∃r,l[k]?=some r:=⟨_,AT2 (by omega)⟩;have ih:=yL k (by omega) λj hj=>h j (by omega);obtain⟨h1,h2,h3⟩:=TG hr (h k (by omega));rw[IY hr,KR,KM.set,ih,(GT _ _).2 h2];simp[E1]
theorem XZ (ps:List (Int×List Int)) (k:Int) (v:List Int) (h:ps.findIdx? (λx=>x.1==k)=none):lfP (ps++[(k,v)])=upd (lfP ps) k (C7 k v):=by
 funext x
 rw[AWn]at h;simp only[lfP,upd,List.find?_append];by_cases hx:x=k
 ·subst hx;have:ps.find? (λp=>p.1==x)=none:=AWD.2 λp hp=>by have:=h p hp;simpa using this
  simp[this]
 ·have:([(k,v)]:List (Int×List Int)).find? (λp=>p.1==x)=none:=by simp;exact λe=>hx e.symm
  rw[this,if_neg hx,Option.or_none]
theorem TU {l:List Rgt}:∀k≤l.length,(∀j <k,FK l j=0)→Ns (lfP ((l.take k).map E1)) (hmL (l.take k))
 |0,_,_=>by
  intro a ha n;have e:lfP ((l.take 0).map E1)=λ_=>none:=by funext x;simp[lfP]
  rw[e];have hb:∀a:Nat,∀n:Int,bH (λ_=>none) a n=none:=by
   intro a n;cases hb:bH (λ_=>none) a n with
   |none=>rfl
   |some v=>
    obtain⟨k,_,_,h3⟩:=(V1 (λ_=>none) a n).1 (by rw[hb];rfl);simp at h3
  rw[hb];simp[hmL,HM.get,Bc]
 |k+1,hk,h=>by
  obtain⟨r,hr⟩:∃r,l[k]?=some r:=⟨_,AT2 (by omega)⟩;have ih:=TU k (by omega) λj hj=>h j (by omega);obtain⟨h1,h2,h3⟩:=TG hr (h k (by omega));rw[IY hr,OW,AUZ,List.map_singleton];have:E1 r=(r.file,Az r):=rfl;rw[this,XZ _ _ _ ((GT _ _).2 h2)];exact uj ih r.file (C7 r.file (Az r))
theorem p17 (h:List Row) (x t q:Nat) (d d2 d3:D) (m:HM) (hx:h[x]?=some (.cells [d,d2,.ref t 0])) (ht:h[t]?=some (.cells [d3,.mref q])) (hq:h[q]?=some m.row):
  FX 17 [.ref x 0] h [.v (.int .u64 ((m.get (12,0)).getD 0))] h:=by
 refine AV k17 rfl ?_;have p1:=p57 h t q m d3 ht hq;simp only[c17,AB,AA,ADO,ADN,AS];simp[hx];refine⟨_,_,p1,?_⟩;simp[AF,AH5]
structure Val where
 a:Int
 n:Int
 d:Int
def Val.V (x:Val):V:= .agg [.int .i64 x.a,.int .i64 x.n,.int .i64 x.d]
inductive Th where
 |mk (cs:List Int) (vs:List Val) (ps:List Th)
def Th.cs:Th→List Int| .mk c _ _=>c
def Th.vs:Th→List Val| .mk _ v _=>v
def Th.ps:Th→List Th| .mk _ _ p=>p
theorem Th.ind {p:Th→Prop} (h:∀cs vs ps,(∀k∈ps,p k)→p (.mk cs vs ps)) (f:Th):p f:=
 Th.rec (motive_1:=p) (motive_2:=λl=>∀k∈l,p k) (λcs vs ps ih=>h cs vs ps ih) (λk hk=>by cases hk)
  (λx xs hx hxs k hk=>by cases hk with|head=>exact hx|tail _ hk=>exact hxs k hk) f
mutual
def Th.V:Th→V| .mk cs vs ps=> .agg [AL .i64 cs,.list (vs.map Val.V),.list (Th.Vs ps)]
def Th.Vs:List Th→List V|[]=>[]|k::ks=>k.V::Th.Vs ks
end
theorem Th.Vs_map:∀l,Th.Vs l=l.map Th.V
 |[]=>rfl
 |k::ks=>by simp[Th.Vs,Th.Vs_map ks]
theorem Th.V_eq (cs:List Int) (vs:List Val) (ps:List Th):(Th.mk cs vs ps).V= .agg [AL .i64 cs,.list (vs.map Val.V),.list (ps.map Th.V)]:=by
 simp[Th.V,Th.Vs_map]
theorem Th.V3 (t:Th):∃cs,t.V= .agg cs∧cs.length=3:=by
 cases t;exact⟨_,Th.V_eq _ _ _,rfl⟩
def Val.ok (x:Val):Prop:=i64 x.a∧i64 x.n∧i64 x.d
inductive Th.ok:Th→Prop
 |mk {cs vs ps} (h1:cs.length≤2^30) (h2:vs.length≤2^30) (h3:ps.length≤2^30) (h4:∀x∈vs,Val.ok x) (h5:∀p∈ps,Th.ok p):Th.ok (.mk cs vs ps)
mutual
def Th.nd:Th→Int→Int→Int| .mk _ _ ps,lv,lf=>if 8 <lv∨lf <1 then -1 else Th.nds ps (lv+1) (lf-1)
def Th.nds:List Th→Int→Int→Int|[],_,lf=>lf|k::ks,lv,lf=>if k.nd lv lf <0 then -1 else Th.nds ks lv (k.nd lv lf)
end
theorem AEr:∀(t:Th) (lv lf:Int),0≤lf→t.nd lv lf≤lf:=by
 refine Th.ind λcs vs ps ih=>?_;intro lv lf h0;rw[Th.nd];split
 ·omega
 ·have:∀(l:List Th),(∀x∈l,∀(lv lf:Int),0≤lf→x.nd lv lf≤lf)→∀lv lf:Int,0≤lf→Th.nds l lv lf≤lf:=by
   intro l;induction l with
   |nil=>intro _ lv lf _;simp[Th.nds]
   |cons x xs ihx=>
    intro h lv lf h1;rw[Th.nds];split
    ·omega
    ·have a1:=h x (by simp) lv lf h1;have a2:=ihx (λy hy=>h y (by simp[hy])) lv (x.nd lv lf) (by omega);omega
  have:=this ps ih (lv+1) (lf-1) (by omega);omega
theorem Er {α:Type} {l:List α} {k:Nat} {x:α} (h:l[k]?=some x):l.drop k=x::l.drop (k+1):=by
 obtain⟨h1,h2⟩:=AT4.1 h;rw[AVO h1,h2]
theorem ARV (lv:Int) (h1:0≤lv∧lv≤8) (all:List Th) (hn:all.length≤2^30) (Q:AExit→St→Prop)
  (ih:∀p∈all,∀(lf:Int),0≤lf→lf≤2^40→PX 247 [p.V,.int .i64 (lv+1),.int .i64 lf] [.int .i64 (p.nd (lv+1) lf)]) (lf:Int) (J:List Row) (h2:0≤lf) (h3:lf≤2^40) (R:Int) (hR:Th.nds all (lv+1) lf=R)
  (hr:∀e h,R= -1→AH e 6= .v (.int .i64 (-1))→Q .ret ⟨e,h⟩) (hs:∀e h,AH e 2= .v (.int .i64 R)→Q (.exit 0) ⟨e,h⟩):
  awp Tryz.prog GLx (.loop RO) Q ⟨[(1,.v (.int .i64 lv)),(2,.v (.int .i64 lf)),(18,.v (.list (all.map Th.V))),(19,.v (.int .i64 all.length)),(20,.v (.int .i64 (0:Nat)))],J⟩:=by
 refine Aa all.length (λk s=>∃lf J,s=⟨[(1,.v (.int .i64 lv)),(2,.v (.int .i64 lf)),(18,.v (.list (all.map Th.V))),(19,.v (.int .i64 all.length)),(20,.v (.int .i64 k))],J⟩∧0≤lf∧lf≤2^40∧Th.nds (all.drop k) (lv+1) lf=R)
  ⟨lf,J,rfl,h2,h3,hR⟩ ?_
 rintro k s hk ⟨lf,J,rfl,h2,h3,hR⟩;simp only[RO,AB,AA,AG,AE,jh];simp;by_cases hkl:k <all.length
 ·obtain⟨x,hx⟩:∃x,all[k]?=some x:=⟨_,AT2 hkl⟩;have hw:IntKind.i64.wrap ((k:Int)+1)=k+1:=AJ;have hw2:IntKind.i64.wrap (lv+1)=lv+1:=AJ;have hp:=(ih x (AT3 hx) lf h2 h3).fsp;have hle:=AEr x (lv+1) lf h2;rw[Er hx,Th.nds]at hR;generalize x.nd (lv+1) lf=N at*;obtain⟨cs,vs,ps⟩:=x;simp[Th.V_eq,AL]at hp;rw[if_pos (by omega),AD];simp only[AA,jg,jf];simp[hx,Th.V_eq,hw2,AL,AN];refine⟨_,_,hp _,?_⟩;by_cases hN:N <0
  ·simp[RM,hN,AB,AA,je,AF];rw[if_pos hN]at hR;exact hr _ _ hR.symm rfl
  ·rw[if_neg hN]at hR;simp[RM,hN,Ui,AD,hw,hkl,hR];omega
 ·have hk2:k=all.length:=by omega
  subst hk2;rw[if_neg (by omega),AM];refine hs _ _ ?_;simp[Th.nds]at hR;simp[hR]
theorem AP6:∀(t:Th) (lv lf:Int),t.ok→0≤lv→lv≤2^40→0≤lf→lf≤2^40→PX 247 [t.V,.int .i64 lv,.int .i64 lf] [.int .i64 (t.nd lv lf)]:=by
 refine Th.ind λcs vs ps ih lv lf hok a1 a2 a3 a4=>?_;obtain⟨ok1,ok2,ok3,ok4,ok5⟩:=hok;refine AK ASf rfl ?_;rw[Th.nd];simp only[ANb,AB,AA,AG,AE,jl,jk,AY];simp[Th.V_eq];by_cases b1:8 <lv
 ·simp[b1,AB,AA,RN,AF,O8]
 ·by_cases b2:lf <1
  ·simp[b1,b2,AB,AA,RN,AF,O8]
  ·have hw:IntKind.i64.wrap (lf-1)=lf-1:=AJ;simp[b1,b2,AD,jj,ji,hw];refine ARV lv ⟨a1,by omega⟩ ps ok3 _ (λp hp lf h h'=>ih p hp (lv+1) lf (ok5 p hp) (by omega) (by omega) h h') (lf-1) _ (by omega) (by omega) _ rfl ?_ ?_
   ·intro e h hR h6;simp[h6,hR,O8]
   ·intro e h h2;simp[AB,AA,Uh,h2,AF,O8]
def XY (t:Th):Bool:=decide (0≤t.nd 1 96)
theorem AQy (t:Th) (h:t.ok):PX 145 [t.V] [.bool (XY t)]:=by
 refine AK ATM rfl ?_;have hp:=(AP6 t 1 96 h (by decide) (by decide) (by decide) (by decide)).fsp;unfold XY;generalize t.nd 1 96=N at*;obtain⟨cs,vs,ps⟩:=t;simp only[AOm,AB,AA,qf,qe,AY];simp[Th.V_eq,AL]at hp ⊢;refine⟨_,_,hp _,?_⟩;simp[AF,ADg]
def Gy (l:List Int) (m:Int) (k:Nat):Bool:=decide (l.getD k 0 <0∨m≤l.getD k 0∨(0 <k∧l.getD k 0≤l.getD (k-1) 0))
def Jd (l:List Int) (m:Int):Bool:= !(List.range l.length).any (Gy l m)
theorem AJe (l:List Int) (m:Int) (hn:l.length≤2^40):PX 250 [AL .i64 l,.int .i64 m] [.bool (Jd l m)]:=by
 refine AK ASc rfl ?_;simp only[ANW,AB,AA,AG,jQ,jP,AY];simp[AL];refine BQ l.length (λk=>⟨[(0,.v (AL .i64 l)),(1,.v (.int .i64 m)),(7,.v (AL .i64 l)),(8,.v (.int .i64 l.length)),(9,.v (.int .i64 k))],[]⟩) (λk=>∀j <k,Gy l m j=false) (by simp[AL]) (by omega) ?_;intro k hk hI;simp only[jR,AB,AA,AG,AE,jO];simp[AL];by_cases h1:k <l.length
 ·obtain⟨x,hx⟩:∃x,l[k]?=some x:=⟨_,AT2 h1⟩;have hw:IntKind.i64.wrap ((k:Int)+1)=k+1:=AJ;have hb:Gy l m k=true↔(x <0∨m≤x∨(0 <k∧x≤l.getD (k-1) 0)):=by unfold Gy;rw[decide_eq_true_iff];simp[List.getD,hx]
  have hf:¬(x <0∨m≤x∨(0 <k∧x≤l.getD (k-1) 0))→Gy l m k=false:=λh=>by
   cases h':Gy l m k with
   |true=>exact absurd (hb.1 h') h
   |false=>rfl
  have ret:Gy l m k=true→Jd l m=false:=λh=>by unfold Jd;rw[Em h1 h];rfl
  have go:Gy l m k=false→∀j <k+1,Gy l m j=false:=λh j hj=>by
   rcases AUS j k with h'|h'
   ·exact hI j h'
   ·have:j=k:=by omega
    subst this;exact h
  rw[if_pos (by omega),AD];simp only[AA,jN,jM];simp[hx];by_cases b1:x <0
  ·have hbt:Gy l m k=true:=hb.2 (.inl b1);simp[b1,AB,AA,AF,Mt,O7,ret hbt]
  ·by_cases b2:m≤x
   ·have hbt:Gy l m k=true:=hb.2 (.inr (.inl b2));simp[b1,b2,AB,AA,AF,Mt,O7,ret hbt]
   ·cases k with
    |zero=>
     have hbf:Gy l m 0=false:=hf (by omega);have hw1:IntKind.i64.wrap 1=1:=rfl;simp[hw1,b1,b2,AD,AA,RG,hw,h1,go hbf]
    |succ j=>
     have hw3:IntKind.i64.wrap (j:Int)=j:=AJ;have hpos:(0:Int) <(j:Int)+1:=by omega
     obtain⟨y,hy⟩:∃y,l[j]?=some y:=⟨_,AT2 (by omega)⟩;simp only[AU7,AVx,Int.cast_ofNat_Int]at hw;by_cases b3:x≤y
     ·have hbt:Gy l m (j+1)=true:=hb.2 (.inr (.inr ⟨by omega,by simp[List.getD,hy,b3]⟩));simp[b1,b2,b3,hpos,hw3,hy,AB,AA,AF,Mt,O7,ret hbt]
     ·have hbf:Gy l m (j+1)=false:=hf (by simp[List.getD,hy];omega);simp[b1,b2,b3,hpos,hw3,hy,AD,AA,RG,hw,h1];exact go hbf
 ·have hk2:k=l.length:=by omega
  subst hk2;rw[if_neg (by omega),AM];simp[AA,AF,AB,jL,O7];unfold Jd;rw[GS hI];rfl
def Ec (x:Val):Bool:=okR x.n x.d&&decide (x.d≤65536)
mutual
def Th.formed:Th→Bool| .mk cs vs ps=>vs.all Ec&&(Jd cs 64&&(Jd (vs.map Val.a) 32&&Th.formeds ps))
def Th.formeds:List Th→Bool|[]=>true|k::ks=>k.formed&&Th.formeds ks
end
theorem GE:∀l,Th.formeds l=l.all Th.formed
 |[]=>rfl
 |k::ks=>by simp[Th.formeds,GE ks]
theorem AJf (t:Th) (h:PX 146 [t.V] [.bool t.formed]):PX 249 [t.V] [.bool (!t.formed)]:=by
 refine AK ASd rfl ?_;have hp:=h.fsp;generalize t.formed=R at*;obtain⟨cs,vs,ps⟩:=t;simp only[ANZ,AB,AA,jY,jX,AY];simp[Th.V_eq,AL]at hp ⊢;refine⟨_,_,hp _,?_⟩;simp[AF,ACv]
theorem ARf (cs:List Int) (vs:List Val) (ps:List Th) (hn:vs.length≤2^30) (hv:∀x∈vs,Val.ok x) (Q:AExit→St→Prop)
  (hr:∀e h,vs.all Ec=false→AH e 2= .v (.bool false)→Q .ret ⟨e,h⟩)
  (hs:∀J,vs.all Ec=true→Q (.exit 0) ⟨[(1,.ref 0 0),(3,.own 3 1 ((vs.map Val.a).map (.int .i64))),(8,.v (.list (vs.map Val.V))),(9,.v (.int .i64 vs.length)),(10,.v (.int .i64 vs.length)),(11,.v (.bool false))],
   .cells [.v (AL .i64 cs),.v (.list (vs.map Val.V)),.v (.list (ps.map Th.V))]::J⟩):
  awp Tryz.prog GLx (.loop R6) Q ⟨[(1,.ref 0 0),(3,.own 3 1 []),(8,.v (.list (vs.map Val.V))),(9,.v (.int .i64 vs.length)),(10,.v (.int .i64 (0:Nat)))],
   [.cells [.v (AL .i64 cs),.v (.list (vs.map Val.V)),.v (.list (ps.map Th.V))]]⟩:=by
 refine Aa vs.length (λk s=>∃J,s=⟨[(1,.ref 0 0),(3,.own 3 1 (((vs.take k).map Val.a).map (.int .i64))),(8,.v (.list (vs.map Val.V))),(9,.v (.int .i64 vs.length)),(10,.v (.int .i64 k))],
   .cells [.v (AL .i64 cs),.v (.list (vs.map Val.V)),.v (.list (ps.map Th.V))]::J⟩∧(vs.take k).all Ec=true) ⟨[],by simp,rfl⟩ ?_
 rintro k s hk ⟨J,rfl,hI⟩;simp only[R6,AB,AA,AG,AE,qY];simp;by_cases hkl:k <vs.length
 ·obtain⟨x,hx⟩:∃x,vs[k]?=some x:=⟨_,AT2 hkl⟩;have hxm:=AT3 hx;have hw:IntKind.i64.wrap ((k:Int)+1)=k+1:=AJ;have hok:=hv x hxm;have hp:=(um x.n x.d hok.2.1 hok.2.2).fsp;have hroom:Ae (k+1) 8=true:=by simp[Ae];omega
  have hm:min k vs.length=k:=by omega
  have ht:vs.take (k+1)=vs.take k++[x]:=by rw[AUP,hx];rfl
  have hall:(vs.take (k+1)).all Ec=Ec x:=by rw[ht,List.all_append,hI];simp
  have hbad:Ec x=false→vs.all Ec=false:=λh=>by
   cases h':vs.all Ec with
   |false=>rfl
   |true=>exact absurd ((AUI.1 h' x hxm).symm.trans h) (by decide)
  have hv:Ec x=(okR x.n x.d&&decide (x.d≤65536)):=rfl;rw[if_pos (by omega),AD];simp only[AA,qX];simp[hx,Val.V,AN];simp only[qW,qV];simp[hm,hroom];simp[A5]at hp;cases h1:okR x.n x.d with
  |false=>
   simp[h1]at hp;refine⟨_,_,hp _,?_⟩;simp[AB,AA,Rz,AF];exact hr _ _ (hbad (by rw[hv,h1];rfl)) rfl
  |true=>
   simp[h1]at hp;refine⟨_,_,hp _,?_⟩;by_cases h2:65536 <x.d
   ·simp[h2,AB,AA,Rz,AF];exact hr _ _ (hbad (by rw[hv,h1];simp;omega)) rfl
   ·have h3:Ec x=true:=by rw[hv,h1];simp;omega
    rw[h3]at hall;simp[h2,AD,qU,hw,hkl];rw[ht]at hall;simp at hall;exact⟨by simp[AUP,hx],by rw[ht];intro y hy;rcases AUK.1 hy with h|h;exact hall.1 y h;rw[AUC.1 h];exact hall.2⟩
 ·have hk2:k=vs.length:=by omega
  subst hk2;rw[if_neg (by omega),AM];rw[AUb]at hI;have:=hs J hI;have e:List.take vs.length (List.map (V.int .i64 ∘ Val.a) vs)=List.map (V.int .i64 ∘ Val.a) vs:=AUc (by simp);simpa[e]using this
theorem AQx:∀(t:Th),t.ok→PX 146 [t.V] [.bool t.formed]:=by
 refine Th.ind λcs vs ps ih hok=>?_;obtain⟨ok1,ok2,ok3,ok4,ok5⟩:=hok;refine AK ATL rfl ?_;have hidx:IdxR Tryz.prog GLx 249 [] (ps.map Th.V) [] (ps.findIdx? λx=> !x.formed) []:=
  IdxR.map λx hx=>(AJf x (ih x hx (ok5 x hx))).fsp []
 have hidx2:=λh=>IdxR.map (P:=Tryz.prog) (GL:=GLx) (fid:=249) (caps:=[]) (f:=Th.V) (p:=λx=> !x.formed) (l:=ps) (h:=h) λx hx=>(AJf x (ih x hx (ok5 x hx))).fsp h;have hcf:=λh=>AEg (.v (.func 249 [])) 249 [] (FV.v 249 []) (ps.map Th.V) (by simp;omega) (by
  intro x hx;obtain⟨y,_,rfl⟩:=AT9.1 hx;exact y.V3) (hidx2 h)
 simp only[En]at hcf;have q1:=(AJe cs 64 (by omega)).fsp;have q2:=(AJe (vs.map Val.a) 32 (by simp;omega)).fsp;have hl:=λQ=>ARf cs vs ps ok2 ok4 Q;rw[Th.formed,GE];generalize Jd cs 64=A at*;generalize Jd (vs.map Val.a) 32=B at*;generalize ps.all Th.formed=C at*;generalize vs.all Ec=D at*;simp only[AOl,AB,AA,AG,qd,qc,qZ,AY];simp[Th.V_eq];refine hl _ ?_ ?_
 ·rintro e h rfl h2;simp[h2,PH]
 ·rintro J rfl;simp[qT];simp only[VY];simp[AL]at q1 q2 ⊢;refine⟨_,_,q1 _,?_⟩;cases A with
  |false=>simp[AF,PH]
  |true=>
   simp;refine⟨_,_,q2 _,?_⟩;cases B with
   |false=>simp[AF,PH]
   |true=>
    simp at hcf ⊢;refine⟨_,_,(hcf _),?_⟩;simp[AF,PH]
def thE (t:Th):Int:=if XY t then (if t.formed then 0 else 1) else 4
theorem p67 (t:Th) (h:t.ok):PX 67 [t.V] [.int .i64 (thE t)]:=by
 refine AK k67 rfl ?_;have q1:=(AQy t h).fsp;have q2:=(AQx t h).fsp;unfold thE;generalize XY t=A at*;generalize t.formed=B at*;obtain⟨cs,vs,ps⟩:=t;simp only[c67,AB,AA,AG,AE,AAM,AAL,AY];simp[Th.V_eq,AL]at q1 q2 ⊢;refine⟨_,_,q1 _,?_⟩;cases A with
 |false=>simp[AB,AA,AAK,AF,vQ]
 |true=>
  simp[AB,AA,AE,AAJ];refine⟨_,_,q2 _,?_⟩;cases B with
  |false=>simp[AB,AA,AAI,AF,vQ]
  |true=>simp[AD,AAH,AF,vQ]
theorem AP0 (x:Val) (n:Int) (h:List Row) (q:Nat) (hq:h[q]?=some (.cells [.v (.int .i64 n)])) (hl:Low h):FX 255 [.v x.V,.ref q 0] h [.v (.bool (x.a==n))] h:=by
 refine Ai ASY rfl (AT6 _) hl (by simp[D.lt]) ?_;have hq':=AO [.cells [.v (.int .i64 x.a),.v (.int .i64 x.n),.v (.int .i64 x.d)]] hq;simp[ANV,awp,jK,jJ,ACm,AS,Val.V,hq']
def V7 (t:Th) (n:Int):Option Val:=t.vs.find? λx=>x.a==n
def J4 (t:Th) (n:Int):Int×Int:=match V7 t n with|some x=>(x.n,x.d)|none=>(0,0)
theorem KV {α:Type} (p:α→Bool) (l:List α):(l.findIdx? p=none∧l.find? p=none)∨∃i x,l.findIdx? p=some i∧l[i]?=some x∧l.find? p=some x:=by
 cases h:l.findIdx? p with
 |none=>
  refine .inl ⟨rfl,?_⟩;rw[AWD];rw[AWn]at h;intro x hx;simp[h x hx]
 |some i=>
  obtain⟨h1,h2,h3⟩:=AVj.1 h;refine .inr ⟨i,l[i],rfl,AT2 h1,?_⟩;rw[List.find?_eq_some_iff_getElem];exact⟨h2,i,h1,rfl,λj hj=>by simpa using h3 j hj⟩
theorem AQp (t:Th) (n:Int) (hok:t.ok):PX 158 [t.V,.int .i64 n] [A5 (J4 t n).1 (J4 t n).2,.bool (V7 t n).isSome]:=by
 obtain⟨cs,vs,ps⟩:=t;obtain⟨ok1,ok2,ok3,ok4,ok5⟩:=hok;have e1:V7 (.mk cs vs ps) n=vs.find? λx=>x.a==n:=rfl;unfold J4;rw[e1];refine AK ATB rfl ?_;have hidx:=λh (hh:h[1]?=some (.cells [.v (.int .i64 n)])) (hl:Low h)=>IdxR.map (P:=Tryz.prog) (GL:=GLx) (fid:=255) (caps:=[.ref 1 0]) (f:=Val.V) (p:=λx=>x.a==n) (l:=vs) (h:=h) λx _=>AP0 x n h 1 hh hl;have hcf:=λh hh hl=>AP1 (.func 255 [.ref 1 0]) 255 [.ref 1 0] (FV.r 255 1 0 []) (vs.map Val.V) (by simp;omega) (by
  intro x hx;obtain⟨y,_,rfl⟩:=AT9.1 hx;exact⟨_,rfl,rfl⟩) (hidx h hh hl)
 have hf:=KV (λx:Val=>x.a==n) vs;simp only[AOc,AB,AA,AG,AE,qA,pz,AY];simp[Th.V_eq];generalize (vs.findIdx? λx=>x.a==n)=I at*;refine⟨_,_,(hcf _ rfl ?_),?_⟩
 ·intro row hrow;simp[AL]at hrow;rcases hrow with rfl|rfl|rfl<;>simp[Row.low,D.lts,D.lt]
 simp only[py];rcases hf with ⟨rfl,e2⟩|⟨i,x,rfl,hx,e2⟩
 ·rw[e2];simp[Dj,AB,AA,px,AN,AF,qB,A5]
 ·rw[e2];have hi:¬(i:Int) <0:=by omega
  simp[Dj,hi,AD,pw,hx,Val.V,AN,AF,qB,A5]
def Th.cells (t:Th):List D:=[.v (AL .i64 t.cs),.v (.list (t.vs.map Val.V)),.v (.list (t.ps.map Th.V))]
mutual
def Th.kinds (n:Int):Th→Bool| .mk cs _ ps=>(cs.all λc=> !decide (n≤c))&&Th.kindss n ps
def Th.kindss (n:Int):List Th→Bool|[]=>true|k::ks=>k.kinds n&&Th.kindss n ks
end
theorem HI (n:Int):∀l,Th.kindss n l=l.all (Th.kinds n)
 |[]=>rfl
 |k::ks=>by simp[Th.kindss,HI n ks]
theorem AQu (c n:Int) (h:List Row) (q:Nat) (hq:h[q]?=some (.cells [.v (.int .i64 n)])):FX 152 [.v (.int .i64 c),.ref q 0] h [.v (.bool (decide (n≤c)))] h:=by
 refine AV ATH rfl ?_;simp[AOg,awp,qL,qK,ADW,AS,hq]
theorem AQt (t:Th) (n:Int) (h:List Row) (q:Nat) (hq:h[q]?=some (.cells [.v (.int .i64 n)])) (hl:Low h) (hp:PX 70 [t.V,.int .i64 n] [.bool (t.kinds n)]):
  FX 154 [.v t.V,.ref q 0] h [.v (.bool (!t.kinds n))] h:=by
 refine Ai ATF rfl (AT6 _) hl (by simp[D.lt]) ?_;have hp:=hp.fsp;generalize t.kinds n=R at*;obtain⟨cs,vs,ps⟩:=t;have hq':=AO [.cells (Th.mk cs vs ps).cells] hq;simp only[Th.cells,Th.cs,Th.vs,Th.ps]at hq';simp only[AOf,AB,AA,qJ,qI,AS];simp[Th.V_eq,AL]at hp hq' ⊢;simp[hq'];refine⟨_,_,hp _,?_⟩;simp[AF,ADV]
theorem p70 (n:Int):∀t:Th,t.ok→PX 70 [t.V,.int .i64 n] [.bool (t.kinds n)]:=by
 refine Th.ind λcs vs ps ih hok=>?_;obtain⟨ok1,ok2,ok3,ok4,ok5⟩:=hok;refine AK k70 rfl ?_;have hlow:Low [Row.cells (Th.mk cs vs ps).cells,.cells [.v (.int .i64 n)]]:=by
  intro row hrow;simp[Th.cells,AL,Th.cs,Th.vs,Th.ps]at hrow;rcases hrow with rfl|rfl<;>simp[Row.low,D.lts,D.lt]
 have hi1:IdxR Tryz.prog GLx 152 [.ref 1 0] (cs.map (.int .i64)) [.cells (Th.mk cs vs ps).cells,.cells [.v (.int .i64 n)]] (cs.findIdx? λc=> !!decide (n≤c)) [.cells (Th.mk cs vs ps).cells,.cells [.v (.int .i64 n)]]:=
  IdxR.map λx hx=>by rw[Bool.not_not];exact AQu x n _ 1 rfl
 have hc1:=un (.func 152 [.ref 1 0]) 152 [.ref 1 0] (FV.r 152 1 0 []) (cs.map (.int .i64)) (by simp;omega) (by
  intro x hx;obtain⟨y,_,rfl⟩:=AT9.1 hx;exact⟨_,rfl⟩) hi1
 have hi2:IdxR Tryz.prog GLx 154 [.ref 1 0] (ps.map Th.V) [.cells (Th.mk cs vs ps).cells,.cells [.v (.int .i64 n)]] (ps.findIdx? λc=> !c.kinds n) [.cells (Th.mk cs vs ps).cells,.cells [.v (.int .i64 n)]]:=
  IdxR.map λx hx=>AQt x n _ 1 rfl hlow (ih x hx (ok5 x hx))
 have hc2:=AEg (.func 154 [.ref 1 0]) 154 [.ref 1 0] (FV.r 154 1 0 []) (ps.map Th.V) (by simp;omega) (by
  intro x hx;obtain⟨y,_,rfl⟩:=AT9.1 hx;exact y.V3) hi2
 rw[En]at hc1 hc2;rw[Th.kinds,HI];generalize (cs.all λc=> !decide (n≤c))=A at*;generalize (ps.all (Th.kinds n))=B at*;simp only[c70,AB,AA,AAC,AAB,AY];simp[Th.V_eq,AL,Th.cells,Th.cs,Th.vs,Th.ps]at hc1 hc2 ⊢;refine⟨_,_,hc1,?_⟩;cases A with
 |false=>simp[AF,AFl]
 |true=>
  simp;refine⟨_,_,hc2,?_⟩;simp[AF,AFl]
theorem p65 (l:List Int) (hn:l.length≤2^40):PX 65 [AL .i64 l] [.int .i64 ((l.find? λx=>x != 0).getD 0)]:=by
 refine AK k65 rfl ?_;obtain⟨R,hR⟩:∃R,(l.find? λx=>x != 0).getD 0=R:=⟨_,rfl⟩;rw[hR];simp only[c65,AB,AA,AG,AAc,AAb,AAa,AY];simp[AL];refine BQ l.length (λk=>⟨[(3,.v (.int .i64 0)),(6,.v (AL .i64 l)),(7,.v (.int .i64 l.length)),(8,.v (.int .i64 k))],[]⟩) (λk=>((l.drop k).find? λx=>x != 0).getD 0=R) (by simp[AL]) (by simpa using hR) ?_;intro k hk hI;simp only[AAd,AB,AA,AG,AE,AAZ];simp[AL];by_cases h1:k <l.length
 ·obtain⟨x,hx⟩:∃x,l[k]?=some x:=⟨_,AT2 h1⟩;have hw:IntKind.i64.wrap ((k:Int)+1)=k+1:=AJ;rw[Er hx]at hI;rw[if_pos (by omega),AD];simp only[AA,AAY,AAX];simp[hx];by_cases b1:x=0
  ·subst b1;simp at hI;simp[AD,AAV,hw,h1,hI]
  ·simp[b1]at hI;subst hI;simp[b1,AB,AA,AAW,AF,AFm]
 ·have hk2:k=l.length:=by omega
  subst hk2;simp at hI;rw[if_neg (by omega),AM];simp[AA,AF,AB,AAU,AFm,hI]
theorem p9t:FX 9 [] [] [.ref 0 0] [txR (CV 6 zb)]:=by
 refine Ai k9 rfl (by simp) ?_ ?_ ?_
 ·intro row hrow;simp only[AUC]at hrow;subst hrow;simp only[txR,Row.low];refine EB λd hd=>?_;rcases AT7.1 hd with rfl|hd
  ·rfl
  ·obtain⟨b,-,rfl⟩:=AT9.1 hd;rfl
 ·intro d hd;simp only[AUC]at hd;subst hd;rfl
 have q1:=p16.fsp;have q2:=p46;have e:Hk= .list (DM.map (AL .i64)):=rfl;rw[e]at q1;have hJ:∃J,Bn (CV 6 zb) (tfs 6) (tfs 6)=[txR (CV 6 zb)]++J:=⟨_,rfl⟩;generalize Bn (CV 6 zb) (tfs 6) (tfs 6)=HH at*;generalize txR (CV 6 zb)=TX at*;generalize DM=par at*;simp at q1 hJ;simp only[c9,AB,AA,AE,AFa,AFZ,AS];simp;refine⟨_,_,(q1 _),?_⟩;simp;refine⟨_,_,q2,?_⟩;simp[AFY,AD,AFX,AF,c9R,hJ]
def CM (ps:List V) (bs:List Bool):Row:= .cells (.own 22 1 ps::bs.map bv)
theorem p69 (ps:List V) (bs:List Bool) (h:List Row) (x:Nat) (hx:h[x]?=some (CM ps bs)):FX 69 [.ref x 0] h [.v (.int .i64 ps.length)] h:=by
 refine AV k69 rfl ?_;simp[c69,awp,AAE,AAD,AL9,AS,hx,CM]
theorem AQY (c n:Int) (h:List Row) (q:Nat) (hq:h[q]?=some (.cells [.v (.int .i64 n)])):FX 208 [.v (.int .i64 c),.ref q 0] h [.v (.bool (decide (c <0∨n≤c)))] h:=by
 refine AV AK5 rfl ?_;by_cases h1:c <0
 ·simp[wE,awp,Re,Rd,U9,AS,hq,h1]
 ·simp[wE,awp,Re,Rd,U9,AS,hq,h1]
theorem AQ9 (n:Int) (l:List Int) (hn:l.length <2^40):PX 120 [.int .i64 n,AL .i64 l] [.bool (l.all λc=>decide (0≤c∧c <n))]:=by
 refine AK ALS rfl ?_;have hidx:IdxR Tryz.prog GLx 208 [.ref 0 0] (l.map (V.int .i64)) [.cells [.v (.int .i64 n)]] (l.findIdx? λx=> !decide (0≤x∧x <n)) [.cells [.v (.int .i64 n)]]:=
  IdxR.map λx hx=>by
   have:=AQY x n [.cells [.v (.int .i64 n)]] 0 rfl;have e:(decide (x <0∨n≤x))= !decide (0≤x∧x <n):=by
    by_cases h1:x <0∨n≤x
    ·have h2:¬(0≤x∧x <n):=by omega
     rw[decide_eq_true h1,decide_eq_false h2];rfl
    ·have h2:0≤x∧x <n:=by omega
     rw[decide_eq_false h1,decide_eq_true h2];rfl
   rw[e]at this;exact this
 have hcf:=un (.func 208 [.ref 0 0]) 208 [.ref 0 0] (FV.r 208 0 0 []) (l.map (V.int .i64)) (by simpa using hn) (by
  intro x hx;obtain⟨y,_,rfl⟩:=AT9.1 hx;exact⟨_,rfl⟩) hidx
 rw[En]at hcf;simp only[AIm,AB,AA,tR,tQ,AY];simp[AL]
 try simp at hcf
 refine⟨_,_,hcf,?_⟩;simp[AF,tS,CB]
def isT (n:Nat) (bs:List Bool) (c d:Int):Bool:=decide (0≤c∧c <n)&&(decide (0≤d∧d <n)&&(bs[(c*64+d).toNat]?).getD false)
theorem AQq (ps:List V) (bs:List Bool) (hps:ps.length≤64) (hbs:bs.length=4096) (h:List Row) (x:Nat) (hx:h[x]?=some (CM ps bs)) (c d:Int):
  FX 157 [.ref x 0,.v (.int .i64 c),.v (.int .i64 d)] h [.v (.bool (isT ps.length bs c d))] h:=by
 refine AV ATC rfl ?_;have q1:=p69 ps bs h x hx;have q2:=(AQ9 ps.length [c,d] (by simp)).fsp;simp[AL]at q2;have hlen:(bs.map bv).length=4096:=by rw[AUM,hbs]
 simp only[AOd,AB,AA,qD,AS];simp;simp only[qC];simp;refine⟨_,_,q1,?_⟩;simp;refine⟨_,_,q2 _,?_⟩;unfold isT;by_cases h1:0≤c∧c <ps.length
 ·by_cases h2:0≤d∧d <ps.length
  ·have k1:c <64:=by omega
   have k2:d <64:=by omega
   have e1:(c*64+d).toNat=c.toNat*64+d.toNat:=by omega
   have e2:1+c.toNat*64+d.toNat=(c.toNat*64+d.toNat)+1:=by omega
   obtain⟨b,hb⟩:∃b,bs[c.toNat*64+d.toNat]?=some b:=⟨_,AT2 (by rw[hbs];omega)⟩;have k3:1+c.toNat*64+d.toNat≤bs.length:=by rw[hbs];omega
   rw[e1,hb];simp[h1,h2,hx,CM,k1,k2];rw[e2]at k3 ⊢;simp[hb,k3,bv,AF,VX]
  ·have h3:0≤d→(ps.length:Int)≤d:=by omega
   simp[h1,h2,AF,VX];exact h3
 ·simp[h1,AF,VX]
def JQ (a b c d:Int):Int:=if okR a b&&okR c d then P2 a b c d else 0
theorem AJU (a b c d:Int) (h1:i64 a) (h2:i64 b) (h3:i64 c) (h4:i64 d):PX 310 [A5 a b,A5 c d] [.int .i64 (JQ a b c d)]:=by
 refine AK AR3 rfl ?_;have q:=(AJk a b c d h1 h2 h3 h4).fsp;unfold JQ;cases hk:okR a b&&okR c d with
 |true=>
  rw[hk]at q;simp[A5]at q;simp[AGq,awp,Qu,Qt,Qs,eJ,AY,A5];refine⟨_,_,q _,?_⟩;simp
 |false=>
  rw[hk]at q;simp[A5]at q;simp[AGq,awp,Qu,Qt,Qs,eJ,AY,A5];refine⟨_,_,q _,?_⟩;simp
def Ob (x:Ivl) (n d:Int):Bool:=
 (x.li|| !(decide (JQ n d x.ln x.ld <0)||(decide (JQ n d x.ln x.ld=0)&&x.lo)))&&(x.hi|| !(decide (0 <JQ n d x.hn x.hd)||(decide (JQ n d x.hn x.hd=0)&&x.ho)))
theorem APx (x:Ivl) (hx:x.ok) (n d:Int) (h1:i64 n) (h2:i64 d):PX 259 [x.V,A5 n d] [.bool (Ob x n d)]:=by
 refine AK ASU rfl ?_;have q1:=(AJU n d x.ln x.ld h1 h2 hx.1 hx.2.1).fsp;have q2:=(AJU n d x.hn x.hd h1 h2 hx.2.2.1 hx.2.2.2).fsp;obtain⟨R,hR⟩:∃R,Ob x n d=R:=⟨_,rfl⟩;rw[hR];unfold Ob at hR;generalize JQ n d x.ln x.ld=a at*;generalize JQ n d x.hn x.hd=b at*;obtain⟨ln,ld,hn,hd,lo,ho,li,hi⟩:=x;simp only at hR q1 q2;simp[A5]at q1 q2;simp only[ANS,AB,AA,AG,AE,jB,jA,iz,AY];simp[Ivl.V,A5];cases li with
 |true=>
  simp[AD];simp only[Ms];simp;cases hi with
  |true=>simp[AD,Dt,AF,EY,CB]at hR ⊢;exact hR
  |false=>
   simp;simp only[Mr];simp;refine⟨_,_,q2 _,?_⟩;simp only[Mq];by_cases b1:0 <b
   ·simp[b1,HR,AF,EY,CB]at hR ⊢;exact hR
   ·by_cases b2:b=0
    ·subst b2;cases ho<;>(simp[AD,HR,Dt,AF,EY,CB]at hR ⊢;exact hR)
    ·simp[b1,b2,AD,Dt,AF,EY,CB]at hR ⊢;exact hR
 |false=>
  simp;simp only[iy];simp;refine⟨_,_,q1 _,?_⟩;simp only[iw];by_cases a1:a <0
  ·simp[a1,RE,AF,EY,CB]at hR ⊢;exact hR
  ·by_cases a2:a=0∧lo=true
   ·obtain⟨rfl,rfl⟩:=a2;simp[RE,AF,EY,CB]at hR ⊢;exact hR
   ·have go:(decide (a <0)||decide (a=0)&&lo)=false:=by
     rw[decide_eq_false a1];by_cases a3:a=0
     ·have:lo=false:=by cases lo;rfl;exact absurd ⟨a3,rfl⟩ a2
      simp[this]
     ·simp[a3]
    rw[go]at hR;by_cases a3:a=0
    ·have hlo:lo=false:=by cases lo;rfl;exact absurd ⟨a3,rfl⟩ a2
     subst a3;subst hlo;simp[AD];simp only[Ms];simp;cases hi with
     |true=>simp[AD,Dt,AF,EY,CB]at hR ⊢;exact hR
     |false=>
      simp;simp only[Mr];simp;refine⟨_,_,q2 _,?_⟩;simp only[Mq];by_cases b1:0 <b
      ·simp[b1,HR,AF,EY,CB]at hR ⊢;exact hR
      ·by_cases b2:b=0
       ·subst b2;cases ho<;>(simp[AD,HR,Dt,AF,EY,CB]at hR ⊢;exact hR)
       ·simp[b1,b2,AD,Dt,AF,EY,CB]at hR ⊢;exact hR
    ·simp[a1,a3,AD];simp only[Ms];simp;cases hi with
     |true=>simp[AD,Dt,AF,EY,CB]at hR ⊢;exact hR
     |false=>
      simp;simp only[Mr];simp;refine⟨_,_,q2 _,?_⟩;simp only[Mq];by_cases b1:0 <b
      ·simp[b1,HR,AF,EY,CB]at hR ⊢;exact hR
      ·by_cases b2:b=0
       ·subst b2;cases ho<;>(simp[AD,HR,Dt,AF,EY,CB]at hR ⊢;exact hR)
       ·simp[b1,b2,AD,Dt,AF,EY,CB]at hR ⊢;exact hR
theorem APy (x:Ivl) (hx:x.ok) (n d:Int) (h1:i64 n) (h2:i64 d) (h:List Row) (q:Nat) (hq:h[q]?=some (.cells [.v (.int .i64 n),.v (.int .i64 d)])) (hl:Low h):
  FX 257 [.v x.V,.ref q 0] h [.v (.bool (Ej x&&Ob x n d))] h:=by
 refine Ai ASW rfl (AT6 _) hl (by simp[D.lt]) ?_;have hq':=AO [.cells [.v (.int .i64 x.ln),.v (.int .i64 x.ld),.v (.int .i64 x.hn),.v (.int .i64 x.hd),.v (.bool x.lo),.v (.bool x.ho),.v (.bool x.li),.v (.bool x.hi)]] hq;have q1:=(AJd x hx).fsp;have q2:=(APx x hx n d h1 h2).fsp;generalize Ej x=G at*;generalize Ob x n d=R at*;simp[Ivl.V,A5]at q1 q2;simp only[ANU,AB,AA,jH,jG,AS];simp[Ivl.V];refine⟨_,_,q1 _,?_⟩;cases G with
 |false=>simp[AF,jI]
 |true=>
  simp[hq'];refine⟨_,_,q2 _,?_⟩;simp[AF,jI]
def AE9 (l:List Ivl) (n d:Int):Bool:=okR n d&&l.any λx=>Ej x&&Ob x n d
theorem AQo (l:List Ivl) (hl:∀x∈l,x.ok) (hn:l.length <2^40) (n d:Int) (h1:i64 n) (h2:i64 d):PX 159 [.list (l.map Ivl.V),A5 n d] [.bool (AE9 l n d)]:=by
 refine AK ATA rfl ?_;have q1:=(um n d h1 h2).fsp;have hidx:IdxR Tryz.prog GLx 257 [.ref 0 0] (l.map Ivl.V) [.cells [.v (.int .i64 n),.v (.int .i64 d)]] (l.findIdx? λx=>Ej x&&Ob x n d) [.cells [.v (.int .i64 n),.v (.int .i64 d)]]:=
  IdxR.map λx hx=>APy x (hl x hx) n d h1 h2 _ 0 rfl (by
   intro row hrow;simp only[AUC]at hrow;subst hrow;rfl)
 have hcf:=APz (.func 257 [.ref 0 0]) 257 [.ref 0 0] (FV.r 257 0 0 []) (l.map Ivl.V) (by simpa using hn) (by
  intro x hx;obtain⟨y,_,rfl⟩:=AT9.1 hx;exact⟨_,rfl,rfl⟩) hidx
 rw[CU]at hcf;unfold AE9;generalize okR n d=O at*;generalize (l.any λx=>Ej x&&Ob x n d)=R at*;simp[A5]at q1 hcf;simp only[AOb,AB,AA,pt,pr,AY];simp[A5];cases O with
 |false=>
  simp at q1;refine⟨_,_,q1 _,?_⟩;simp[AF,pu,CB]
 |true=>
  simp at q1;refine⟨_,_,q1 _,?_⟩;simp;refine⟨_,_,hcf,?_⟩;simp[AF,pu,CB]
def rdr (xs:List Int):Row:= .cells [.v (AL .u8 xs),.v (.int .i64 0)]
theorem p44 (xs:List Int) (hb:xs.length≤2^45) (h:List Row):FX 44 [.v (AL .u8 xs)] h [.ref h.length 0] (h++[rdr xs]):=by
 refine AV k44 rfl ?_;simp[c44,awp,AB0,ABz,AMT,AS];refine⟨_,_,(AJy xs hb h),?_⟩;simp[rdr,AL,AN,D.toRow]
theorem ARA (n:Int) (hn:i64 n):PX 118 [.int .u64 (IW n)] [.int .i64 n]:=by
 refine AK ATa rfl ?_;unfold i64 at hn;unfold IW;have e1:((2:Int)^IntKind.u64.bits)=18446744073709551616:=by decide
 have e2:((2:Int)^IntKind.i64.bits)=18446744073709551616:=by decide
 have e3:((1:Int)%18446744073709551616).toNat=1:=by decide
 have e4:(2:Int)^min 1 IntKind.u64.bits=2:=by decide
 by_cases h0:n <0
 ·simp[AIo,awp,Sh,Sg,tY,AY,h0];have d1:(2* -(n+1)+1).fdiv (2^min 1 IntKind.u64.bits)= -(n+1):=by
   rw[e4,AVq _ (by decide)];omega
  have d2:((2* -(n+1)+1)%18446744073709551616).toNat%2=1:=by omega
  rw[d1,e1,e2,e3,Nat.and_one_is_mod,d2,AJ (a:= -(n+1)) (by omega) (by omega)];have d3:IntKind.i64.wrap (-IntKind.i64.wrap (IntKind.u64.wrap ((1:Nat):Int)))= -1:=by decide
  rw[d3];have d4:((-1:Int)%18446744073709551616).toNat=2^64-1:=by decide
  rw[d4,Nt _ (by omega)];have d5:((2^64-1-(-(n+1)%18446744073709551616).toNat:Nat):Int)=n+18446744073709551616:=by omega
  rw[d5];have:IntKind.i64.wrap (n+18446744073709551616)=n:=by
   unfold IntKind.wrap;simp only[IntKind.bits,IntKind.signed];have e5:((2:Int)^64)=18446744073709551616:=by decide
   simp only[e5];simp;omega
  exact this
 ·simp[AIo,awp,Sh,Sg,tY,AY,h0];have d1:(2*n).fdiv (2^min 1 IntKind.u64.bits)=n:=by
   rw[e4,AVq _ (by decide)];omega
  have d2:((2*n)%18446744073709551616).toNat%2=0:=by omega
  rw[d1,e1,e2,e3,Nat.and_one_is_mod,d2,AJ (a:=n) (by omega) (by omega)];have d3:IntKind.i64.wrap (-IntKind.i64.wrap (IntKind.u64.wrap ((0:Nat):Int)))=0:=by decide
  rw[d3];have d4:((0:Int)%18446744073709551616).toNat=0:=by decide
  rw[d4,Nat.xor_zero,AJ];omega
theorem AJn (c:Int) (xs:List Int) (h:List Row) (r:Nat) (hr:h[r]?=some (rdr (c::xs))):FX 203 [.ref r 0] h [.v (.int .u8 c)] (h.set r (rdr xs)):=by
 refine AV AS3 rfl ?_;have h1:¬((xs.length:Int)+1=0):=by omega
 simp[AOF,awp,oE,oD,oC,oB,oA,n9,ADG,AS,hr,rdr,AL,h1];simp[AN]
theorem uM {c:Int} (h0:0≤c) (h1:c <256):IntKind.u8.wrap (((c%2^IntKind.u8.bits).toNat &&& 2^IntKind.u8.bits-1-128%2^IntKind.u8.bits:Nat):Int)=c%128:=by
 have key:∀m:Fin 256,IntKind.u8.wrap ((((m.val:Int)%2^IntKind.u8.bits).toNat &&& 2^IntKind.u8.bits-1-128%2^IntKind.u8.bits:Nat):Int)=(m.val:Int)%128:=by decide+kernel
 have:=key ⟨c.toNat,by omega⟩;simpa only[AWd h0]using this
theorem AEo {a b:Int} {i:Nat} (h0:0≤a) (h1:a <2^i) (h2:0≤b) (h3:a+b*2^i <18446744073709551616):
  (a.toNat ||| (b*2^i).toNat:Nat)=(a+b*2^i).toNat:=by
 have e1:(b*2^i).toNat=2^i*b.toNat:=by
  obtain⟨m,rfl⟩:=Int.eq_ofNat_of_zero_le h2;have:((m:Int)*2^i)=((2^i*m:Nat):Int):=by push_cast;rw[AVL]
  rw[this,AVs,AVs]
 have e2:a.toNat <2^i:=by
  have:((2^i:Nat):Int)=2^i:=by push_cast;rfl
  omega
 rw[e1,Nat.or_comm,←Nat.two_pow_add_eq_or_of_lt e2];have e3:((2^i*b.toNat:Nat):Int)=b*2^i:=by
  rw[←e1];exact AWd (AWA h2 (AWE (AV9 (by decide))))
 omega
theorem AIx {Q:AExit→St→Prop} {c acc:Int} {i:Nat} {h:List Row} {r:Nat} {xs:List Int} (hr:h[r]?=some (rdr (c::xs))) (hc:0≤c∧c <256) (hi:i≤9) (h9:¬(i=9∧1 <c)) (h0:¬(0 <i∧c=0))
  (ha:0≤acc∧acc <128^i) (hs:acc+(c%128)*128^i <18446744073709551616)
  (hret:c <128→Q .ret ⟨[(2,.v (.int .u64 (acc+c*128^i)))],h.set r (rdr xs)⟩)
  (hgo:128≤c→Q .normal ⟨[(0,.ref r 0),(3,.v (.int .u64 (acc+(c%128)*128^i))),(4,.v (.int .i64 (i+1)))],h.set r (rdr xs)⟩):
  awp Tryz.prog GLx NU Q ⟨[(0,.ref r 0),(3,.v (.int .u64 acc)),(4,.v (.int .i64 i))],h⟩:=by
 simp only[NU,AB,AA,AG,AE,tU];simp[hr,rdr,AL,AD];simp only[AA,tT];simp;refine⟨_,_,(AJn c xs h r hr),?_⟩;have hj:i=9∧¬1 <c∧¬c=0∨i=0∨(0 <i∧¬i=9∧¬c=0):=by omega
 have a1:=uM hc.1 hc.2;have a2:IntKind.u64.wrap (c%128)=c%128:=Bm (by omega) (by omega);have a3:IntKind.i64.wrap (7*(i:Int))=7*i:=AJ;have a6:IntKind.i64.wrap ((i:Int)+1)=i+1:=AJ;have e64:((2:Int)^IntKind.u64.bits)=18446744073709551616:=by decide
 have k3:0≤7*(i:Int):=by omega
 have Ph:(128:Int)^i=2^(7*i):=by rw[Int.pow_mul];rfl
 have hx0:0≤c%128*128^i:=AWA (by omega) (AWE (AV9 (by decide)));have a4:IntKind.u64.wrap (c%128*2^min (7*(i:Int)).toNat IntKind.u64.bits)=c%128*128^i:=by
  have:min (7*(i:Int)).toNat IntKind.u64.bits=7*i:=by
   have:(7*(i:Int)).toNat=7*i:=by omega
   rw[this];exact AVG (by show 7*i≤64;omega)
  rw[this,←Ph,Bm hx0 (by omega)]
 have a5:IntKind.u64.wrap (((acc%2^IntKind.u64.bits).toNat ||| (c%128*128^i%2^IntKind.u64.bits).toNat:Nat):Int)=acc+c%128*128^i:=by
  rw[e64,Int.emod_eq_of_lt ha.1 (by omega),Int.emod_eq_of_lt hx0 (by omega)];rw[Ph]at hs ⊢;rw[AEo ha.1 (by rw[←Ph];exact ha.2) (by omega) hs,AWd (by rw[←Ph];omega),Bm (by rw[←Ph];omega) hs]
 have tail:∀x:D,BE Tryz.prog GLx Se (λs'=>BE Tryz.prog GLx Sd (λs'=>match (AH s'.e 47).copy with
   | .v (.bool t)=>if t=true then BE Tryz.prog GLx NT (λs'=>Q .ret ⟨[(2,AH s'.e 2)],s'.h⟩) ⟨[(0,AH s'.e 0),(3,AH s'.e 3),(4,AH s'.e 4),(47,AH s'.e 47)],s'.h⟩
    else BE Tryz.prog GLx Sf (λs'=>Q .normal ⟨[(0,AH s'.e 0),(3,AH s'.e 3),(4,AH s'.e 4)],s'.h⟩) ⟨[(0,AH s'.e 0),(3,AH s'.e 3),(4,AH s'.e 4),(47,AH s'.e 47)],s'.h⟩
   |_=>False) ⟨[(0,AH s'.e 0),(3,AH s'.e 3),(4,AH s'.e 4),(5,AH s'.e 5)],s'.h⟩) ⟨[(0,.ref r 0),(3,.v (.int .u64 acc)),(4,.v (.int .i64 i)),(5,.v (.int .u8 c)),(28,x)],h.set r (rdr xs)⟩:=by
  intro x;simp only[Se];simp[a1,a2,a3,k3,a4,a5];simp only[Sd];by_cases hl:c <128
  ·have hm:c%128=c:=by omega
   simp[hl,BX hr,rdr,AL];simp only[NT];simp;rw[hm];exact hret hl
  ·simp[hl,BX hr,rdr,AL];simp only[Sf];simp[a6];exact hgo (by omega)
 rcases hj with ⟨j0,j1,j2⟩|j0|⟨j0,j1,j2⟩
 ·have k1:((i:Int)=9)=True:=eq_true (by omega);have k2:0 <i:=by omega
  simp only[NS];simp[k1,k2,j1,j2];exact tail _
 ·have k1:((i:Int)=9)=False:=eq_false (by omega);have k2:¬0 <i:=by omega
  simp only[NS];simp[k1,k2];exact tail _
 ·have k1:((i:Int)=9)=False:=eq_false (by omega);simp only[NS];simp[k1,j0,j2];exact tail _
theorem ARk (k:Nat):∀(m acc:Int) (i:Nat) (h:List Row) (r:Nat) (rest:List Int),i+k=9→0≤acc→acc <128^i→0≤m→m <128^(k+1)→acc+m*128^i <18446744073709551616→(0 <i→0 <m)→
  h[r]?=some (rdr (DQ k m++rest))→
  awp Tryz.prog GLx (.loop NU) (λe s=>e= .ret∧s=⟨[(2,.v (.int .u64 (acc+m*128^i)))],h.set r (rdr rest)⟩) ⟨[(0,.ref r 0),(3,.v (.int .u64 acc)),(4,.v (.int .i64 i))],h⟩:=by
 induction k with
 |zero=>
  intro m acc i h r rest hik ha0 ha1 hm0 hm1 hs h0 hr;obtain rfl:i=9:=by omega
  have e9:(128:Int)^9=9223372036854775808:=by decide
  have e1:(128:Int)^(0+1)=128:=by decide
  rw[e9]at hs ha1;have hm2:m%128=m:=by omega
  refine A9 (AIx (c:=m) (xs:=rest) hr ⟨hm0,by omega⟩ (by omega) (by omega) (by have:=h0 (by omega);omega) ⟨ha0,by rw[e9];exact ha1⟩ (by rw[hm2,e9];exact hs) (λ_=>⟨rfl,rfl⟩) (λh=>by omega))
 |succ k ih=>
  intro m acc i h r rest hik ha0 ha1 hm0 hm1 hs h0 hr;have hp:(0:Int) <128^i:=AV9 (by decide);by_cases hl:m <128
  ·have hm2:m%128=m:=by omega
   rw[show DQ (k+1) m=[m] by simp[DQ,hl]]at hr;refine A9 (AIx (c:=m) (xs:=rest) hr ⟨hm0,by omega⟩ (by omega) (by omega) (λhh=>by have:=h0 hh.1;omega) ⟨ha0,ha1⟩ (by rw[hm2];exact hs) (λ_=>⟨rfl,rfl⟩) (λh=>by omega))
  ·rw[show DQ (k+1) m=(128+m%128)::DQ k (m/128) by simp[DQ,hl]]at hr;have hc:(128+m%128)%128=m%128:=by omega
   have hp1:(128:Int)^(i+1)=128^i*128:=AU2 ..;have hle:(m%128)*128^i≤m*128^i:=AU5 (by omega) (AWE hp);have hsum:acc+(m%128)*128^i+(m/128)*128^(i+1)=acc+m*128^i:=by
    have:m*128^i=(m%128+128*(m/128))*128^i:=by rw[Int.emod_add_mul_ediv]
    rw[this,hp1,AWb];have:m/128*(128^i*128)=128*(m/128)*128^i:=by
     rw[AVL (128^i) 128,←AV8,AVL (m/128) 128]
    omega
   have hlt:acc+(m%128)*128^i <128^(i+1):=by
    have:(m%128)*128^i≤127*128^i:=AU5 (by omega) (AWE hp);omega
   have hm1':m/128 <128^(k+1):=AWl (by decide) (by rw[←AU2];exact hm1);have h2:=ih (m/128) (acc+(m%128)*128^i) (i+1) (h.set r (rdr (DQ k (m/128)++rest))) r rest (by omega) (Int.add_nonneg ha0 (AWA (by omega) (AWE hp))) hlt (by omega) hm1' (by rw[hsum];exact hs) (by omega) (BX hr);rw[hsum,AVB]at h2;refine Bl (s1:=⟨[(0,.ref r 0),(3,.v (.int .u64 (acc+(m%128)*128^i))),(4,.v (.int .i64 ((i+1:Nat):Int)))],h.set r (rdr (DQ k (m/128)++rest))⟩) ?_ h2;refine AIx (c:=128+m%128) hr ⟨by omega,by omega⟩ (by omega) (by omega) (by omega) ⟨ha0,ha1⟩ (by rw[hc];omega) (λh=>by omega) (λ_=>?_);rw[hc,AU7];rfl
theorem AEj (n:Int) (hn:u64 n) (h:List Row) (r:Nat) (rest:List Int) (hr:h[r]?=some (rdr (HB n++rest))):FX 119 [.ref r 0] h [.v (.int .u64 n)] (h.set r (rdr rest)):=by
 refine AV ATZ rfl ?_;unfold u64 at hn;have e10:(128:Int)^(9+1)=1180591620717411303424:=by decide
 have hw:=ARk 9 n 0 0 h r rest (by omega) (by omega) (by decide) hn.1 (by omega) (by simpa using hn.2) (by omega) hr;simp only[AO3,AB,AG,AA,tX,tW,tV,AS];simp;simp at hw;refine HV hw ?_;simp[ADz]
theorem p45 (n:Int) (hn:i64 n) (h:List Row) (r:Nat) (rest:List Int) (hr:h[r]?=some (rdr (Af n++rest))):FX 45 [.ref r 0] h [.v (.int .i64 n)] (h.set r (rdr rest)):=by
 refine AV k45 rfl ?_;simp[c45,awp,ABy,ABx,AMS,AS];refine⟨_,_,(AEj (IW n) (HX hn) h r rest hr),?_⟩;simp;refine⟨_,(ARA n hn).fsp _,?_⟩;simp
theorem GX:∀(k:Nat) (n:Int),1≤(DQ k n).length
 |0,n=>by simp[DQ]
 |k+1,n=>by
  simp only[DQ];split<;>simp
theorem EC:∀l:List Int,l.length≤(l.flatMap Af).length
 |[]=>by simp
 |x::l=>by
  have:=GX 9 (IW x);have:=EC l;simp only[AUN,AT5,AUO,Af,HB]at *;omega
theorem AQb (xs:List Int) (h:List Row) (r:Nat) (rest:List Int) (hb:xs.length+rest.length≤2^44) (hr:h[r]?=some (rdr (BN xs++rest))):
  FX 202 [.ref r 0,.meth 203 [.ref r 0]] h [.own 5 1 (xs.map (.int .u8))] (h.set r (rdr rest)):=by
 refine AV AS4 rfl ?_;have w1:∀n:Int,0≤n→n≤2^50→IntKind.u64.wrap n=n:=λn h0 hn=>Bm (by omega) (by omega);simp only[AOG,AB,AG,AA,oN,oM,AS];simp;refine⟨_,_,(AEj xs.length ⟨by omega,by omega⟩ h r (xs++rest) (by simpa[BN,BJ]using hr)),?_⟩;simp only[AA,AE,oL];have hlen:xs.length≤(xs).length:=by exact AT6 _
 have hlen2:(xs).length≤10*xs.length:=by omega
 have w2:IntKind.u64.wrap ((xs).length+rest.length:Int)=(xs).length+rest.length:=w1 _ (by omega) (by omega);have hlt:¬(((xs).length+rest.length:Int) <xs.length):=by omega
 generalize hX:xs=X at w2 hlt;simp[BX hr,rdr,AL,w2,hlt,AD];subst hX;simp only[AA,oK,oJ];simp;refine Ad xs.length (λk=>⟨[(0,.ref r 0),(1,.meth 203 [.ref r 0]),(5,.v (.int .u64 xs.length)),(6,.own 5 1 ((xs.take k).map (.int .u8))),(7,.v (.int .u64 k))],h.set r (rdr ((xs.drop k)++rest))⟩) (by simp[rdr,AL]) ?_;intro k hk;simp only[oO,AB,AA,AG,AE,oI];by_cases h1:k <xs.length
 ·have hd:xs.drop k=xs[k]::xs.drop (k+1):=AVO h1;simp[BX hr,rdr,h1,AD];simp only[AA,oG];simp;refine⟨_,_,(AJn xs[k] (xs.drop (k+1)++rest) _ r (by rw[BX hr,hd];rfl)),?_⟩;have hroom:Ae (k+1) 1=true:=by simp[Ae];omega
  have ht:min k xs.length=k:=by omega
  simp[ht,hroom];simp only[oH];have w3:IntKind.u64.wrap ((k:Int)+1)=k+1:=w1 _ (by omega) (by omega);have htk:(xs.map (V.int .u8)).take (k+1)=(xs.map (V.int .u8)).take k++[V.int .u8 xs[k]]:=by
   rw[←AUd,←AUd,AVC h1,AUZ];rfl
  simp[w3,h1,rdr,htk]
 ·have:k=xs.length:=by omega
  subst this;simp[BX hr,rdr,AM];simp only[AA,oF,AE];simp[BX hr,rdr,AD];simp only[VH];simp[ADH,AF,AL]
theorem AQZ (xs:List Int) (hi:∀n∈xs,i64 n) (h:List Row) (r:Nat) (rest:List Int) (hb:xs.length+rest.length≤2^44) (hr:h[r]?=some (rdr (BJ xs++rest))):
  FX 206 [.ref r 0,.meth 45 [.ref r 0]] h [.own 3 1 (xs.map (.int .i64))] (h.set r (rdr rest)):=by
 refine AV AS0 rfl ?_;have w1:∀n:Int,0≤n→n≤2^50→IntKind.u64.wrap n=n:=λn h0 hn=>Bm (by omega) (by omega);simp only[AOC,AB,AG,AA,nZ,nY,AS];simp;refine⟨_,_,(AEj xs.length ⟨by omega,by omega⟩ h r ((xs).flatMap Af++rest) (by simpa[BN,BJ]using hr)),?_⟩;simp only[AA,AE,nX];have hlen:xs.length≤((xs).flatMap Af).length:=by exact EC xs
 have hlen2:((xs).flatMap Af).length≤10*xs.length:=by exact Ce xs
 have w2:IntKind.u64.wrap (((xs).flatMap Af).length+rest.length:Int)=((xs).flatMap Af).length+rest.length:=w1 _ (by omega) (by omega);have hlt:¬((((xs).flatMap Af).length+rest.length:Int) <xs.length):=by omega
 generalize hX:(xs).flatMap Af=X at w2 hlt;simp[BX hr,rdr,AL,w2,hlt,AD];subst hX;simp only[AA,nW,nV];simp;refine Ad xs.length (λk=>⟨[(0,.ref r 0),(1,.meth 45 [.ref r 0]),(5,.v (.int .u64 xs.length)),(6,.own 3 1 ((xs.take k).map (.int .i64))),(7,.v (.int .u64 k))],h.set r (rdr (((xs.drop k)).flatMap Af++rest))⟩) (by simp[rdr,AL]) ?_;intro k hk;simp only[nf,AB,AA,AG,AE,nU];by_cases h1:k <xs.length
 ·have hd:xs.drop k=xs[k]::xs.drop (k+1):=AVO h1;simp[BX hr,rdr,h1,AD];simp only[AA,nS];simp;refine⟨_,_,(p45 xs[k] (hi _ (AUs h1)) _ r ((xs.drop (k+1)).flatMap Af++rest) (by rw[BX hr,hd,AUN,AUB];rfl)),?_⟩;have hroom:Ae (k+1) 8=true:=by simp[Ae];omega
  have ht:min k xs.length=k:=by omega
  simp[ht,hroom];simp only[nT];have w3:IntKind.u64.wrap ((k:Int)+1)=k+1:=w1 _ (by omega) (by omega);have htk:(xs.map (V.int .i64)).take (k+1)=(xs.map (V.int .i64)).take k++[V.int .i64 xs[k]]:=by
   rw[←AUd,←AUd,AVC h1,AUZ];rfl
  simp[w3,h1,rdr,htk]
 ·have:k=xs.length:=by omega
  subst this;simp[BX hr,rdr,AM];simp only[AA,nR,AE];simp[BX hr,rdr,AD];simp only[VA];simp[ADE,AF,AL]
theorem AJz (xs:List Int) (h:List Row) (r:Nat) (rest:List Int) (hb:xs.length+rest.length≤2^44) (hr:h[r]?=some (rdr (BN xs++rest))):FX 112 [.ref r 0] h [.own 5 1 (xs.map (.int .u8))] (h.set r (rdr rest)):=by
 refine AV ATe rfl ?_;simp[AO6,awp,ti,th,AD4,AS];refine⟨_,(AQb xs h r rest hb hr),?_⟩;simp
theorem AEl (xs:List Int) (hi:∀n∈xs,i64 n) (h:List Row) (r:Nat) (rest:List Int) (hb:xs.length+rest.length≤2^44) (hr:h[r]?=some (rdr (BJ xs++rest))):FX 114 [.ref r 0] h [.own 3 1 (xs.map (.int .i64))] (h.set r (rdr rest)):=by
 refine AV ATc rfl ?_;simp[AO5,awp,td,tc,AD1,AS];refine⟨_,(AQZ xs hi h r rest hb hr),?_⟩;simp
theorem AEk (h:List Row) (r:Nat) (hr:h[r]?=some (rdr [])):FX 116 [.ref r 0] h [.v (.int .i64 0)] h:=by
 refine AV ATb rfl ?_;simp[AO4,awp,tb,ta,tZ,AD0,AS,hr,rdr,AL]
def AF1:=[xw 8 false]
def AF0:=[x0 35 9,xm 9 35]
def AFz:=[xn 36 0,x1 37 10 36,x1 38 14 37,xn 10 38]
def AFy:=[xm 40 9,xm 41 10,x2 42 13 40 41,xn 39 42,xe 43 39 0,xe 44 39 1,xm 11 43,xm 12 44]
def AFx:=[xm 45 11,xp 46 (.eqP false (xt 45) (.c (.v .nilp))),xm 47 46,xF 47 (xm 48 12),xF 47 (xC 49 .neq 48 0),xO 50 47 49]
def AMM:=[xw 8 false]
def AFw:=[xn 51 1,xc 52 21 [xt 51,xi 6,xi 3],xo (.alloc 13 zl17),xs 13 52 3]
def AFv:=[xm 53 2,xc 54 11 [xt 53,xi 80],xb 55 .add (xi 35990) (xt 54),xm 14 55]
def AFu:=[xm 57 11,xL 58 13 3,x2 59 22 57 58,xn 56 59,xe 60 56 0,xe 61 56 1,xo (.alloc 15 zl3),xs 15 60 13,xm 16 61]
def AFt:=[xm 63 11,xL 64 13 3,xm 65 14,x3 66 23 63 64 65,xn 62 66,xe 67 62 0,xe 68 62 1,xo (.alloc 17 zl3),xs 17 67 13,xm 18 68]
def bD:=[xm 70 11,xL 71 13 3,xm 72 14,xm 73 3,xc 74 11 [xt 73,xi 60],xB 75 .add 72 74,xq 76 23 [xt 70,xt 71,xt 75],xn 69 76,xe 77 69 0,xe 78 69 1,xo (.alloc 19 zl3),xs 19 77 13,xm 20 78]
def bC:=[xm 79 16,xC 80 .neq 79 0,xm 81 80,xF 81 (xm 82 18),xF 81 (xC 83 .neq 82 0),xO 84 81 83,xm 85 84,xF 85 (xm 86 20),xF 85 (xC 87 .neq 86 0),xO 88 85 87]
def ABh:=[xw 8 false]
def bB:=[xv 21 0]
def bA:=[xv 22 0]
def az:=[xv 23 0]
def ay:=[xm 89 23,xa 90 15 8 1,xl 91 90 1,xA 92 91,xB 93 .lss 89 92]
def aw:=[xw 24 false]
def av:=[xv 25 0]
def ABg:=[xm 96 25,xm 97 10,xA 98 97,xB 99 .lss 96 98]
def ABf:=[xm 102 10,xm 103 25,xI 104 102 103 8,xa 105 104 0 1,xl 106 105 1,xa 107 15 8 1,xl 108 107 1,xm 109 23,xI 110 108 109 2,xa 111 110 0 1,xl 112 111 1,xB 113 .neq 106 112]
def ABe:=[xm 115 10,xm 116 25,xI 117 115 116 8,xa 118 117 3 1,xl 119 118 1,xa 120 15 8 1,xl 121 120 1,xm 122 23,xI 123 121 122 2,xa 124 123 1 1,xl 125 124 1,x2 126 24 119 125,xn 114 126,xe 127 114 0,xe 128 114 1,xn 26 127,xm 27 128]
def ABd:=[xm 129 27,xC 130 .neq 129 0]
def AMN:=[xw 8 false]
def ABc:=[xv 28 0]
def ABb:=[xm 131 28,xm 132 26,xA 133 132,xB 134 .lss 131 133]
def ABZ:=[xm 138 9,xm 139 26,xm 140 28,xI 141 139 140 4,xL 142 141 4,xL 143 13 3,xq 144 25 [xt 138,xt 142,xt 143],xn 137 144,xe 145 137 0,xe 146 137 1,xm 29 145,xm 30 146]
def ABY:=[xv 31 0]
def ABX:=[xm 147 31,xm 148 10,xm 149 25,xI 150 148 149 8,xa 151 150 4 1,xl 152 151 1,xA 153 152,xB 154 .lss 147 153]
def ABW:=[xm 157 10,xm 158 25,xI 159 157 158 8,xa 160 159 4 1,xl 161 160 1,xm 162 31,xI 163 161 162 4,xL 164 163 4,xo (.alloc 32 zl8),xs 32 164 4]
def ABV:=[xm 165 24,xm 166 165,xF 166 (xm 167 30),xF 166 (xC 168 .eql 167 0),xF 166 (xm 169 168),xH 169 (xm 170 29),xF 166 (xN 171 169 170),xF 166 (xm 172 171),xH 172 (xa 173 32 0 2),xH 172 (xL 174 173 2),xH 172 (xa 175 15 8 1),xH 172 (xl 176 175 1),xH 172 (xm 177 23),xH 172 (xI 178 176 177 2),xH 172 (xa 179 178 1 1),xH 172 (xl 180 179 1),xH 172 (xm 181 28),xH 172 (xp 182 (.build zl7 [(0,1,xt 180),(1,1,xt 181)])),xH 172 (xp 183 (.eqA false [0,0] (xt 174) (xt 182))),xF 166 (xN 184 172 183),xF 166 (xm 185 184),xH 185 (xa 186 32 2 1),xH 185 (xl 187 186 1),xH 185 (xm 188 14),xH 185 (xB 189 .lss 187 188),xF 166 (xN 190 185 189),xO 191 166 190,xm 24 191]
def Lr:=xV 155 31 156
def AF2:AC:=.seq (xS ABX [9,10,13,14,15,17,19,21,22,23,24,25,26,28,29,30,31,154] (xD 154 6)) (.seq (.block 7 (xS ABW [9,10,13,14,15,17,19,21,22,23,24,25,26,28,29,30,31,32] (.regD ABV [9,10,13,14,15,17,19,21,22,23,24,25,26,28,29,30,31] (xK [[],[0],[1],[2],[3],[4],[5],[6],[7],[8],[7],[10],[7],[11,12],[13],[14],[7],[15,16],[9,17],[18],[19],[20],[21],[20],[22,23],[24],[25],[26]])))) (.reg Lr [9,10,13,14,15,17,19,21,22,23,24,25,26,28,29,30,31]))
def ABa:=xV 135 28 136
def AF3:AC:=.seq (xS ABb [9,10,13,14,15,17,19,21,22,23,24,25,26,28,134] (xD 134 4)) (.seq (.block 5 (.seq (.regD ABZ [9,10,13,14,15,17,19,21,22,23,24,25,26,28,29,30] (xK [[],[],[],[1,2],[3],[],[0,4,5],[6],[7],[7],[8],[9,10]])) (xS ABY [9,10,13,14,15,17,19,21,22,23,24,25,26,28,29,30,31] (.block 6 (.loop AF2))))) (.reg ABa [9,10,13,14,15,17,19,21,22,23,24,25,26,28]))
def au:=xV 100 25 101
def vT:AC:=.seq (xS ABg [9,10,13,14,15,17,19,21,22,23,24,25,99] (xD 99 2)) (.seq (.block 3 (.seq (.seq (.regD ABf [9,10,13,14,15,17,19,21,22,23,24,25,113] (xK [[],[],[0,1],[2],[3],[],[5],[],[6,7],[8],[9],[4,10]])) (.cond (xt 113) (.exit 3) .skip)) (.seq (.regD ABe [9,10,13,14,15,17,19,21,22,23,24,25,26,27] (xK [[],[],[0,1],[2],[3],[],[5],[],[6,7],[8],[9],[4,10],[11],[12],[12],[13],[14,15]])) (xQ ABd [9,10,13,14,15,17,19,21,22,23,24,25,26,130] 130 (xE AMN [8]) (xS ABc [9,10,13,14,15,17,19,21,22,23,24,25,26,28] (.block 4 (.loop AF3))))))) (.reg au [9,10,13,14,15,17,19,21,22,23,24,25]))
def IK:=[xm 192 21,xa 193 17 8 1,xl 194 193 1,xA 195 194,xB 196 .lss 192 195,xm 197 196,xH 197 (xa 198 17 8 1),xH 197 (xl 199 198 1),xH 197 (xm 200 21),xH 197 (xI 201 199 200 2),xH 197 (xL 202 201 2),xH 197 (xa 203 15 8 1),xH 197 (xl 204 203 1),xH 197 (xm 205 23),xH 197 (xI 206 204 205 2),xH 197 (xL 207 206 2),xH 197 (xp 208 (.eqA false [0,0] (xt 202) (xt 207))),xN 209 197 208,xm 33 209]
def IJ:=[xm 210 33,xm 211 24,xp 212 (.eqB true (xt 210) (xt 211))]
def ABU:=[xw 8 false]
def II:=[xm 213 22,xa 214 19 8 1,xl 215 214 1,xA 216 215,xB 217 .lss 213 216,xm 218 217,xH 218 (xa 219 19 8 1),xH 218 (xl 220 219 1),xH 218 (xm 221 22),xH 218 (xI 222 220 221 2),xH 218 (xL 223 222 2),xH 218 (xa 224 15 8 1),xH 218 (xl 225 224 1),xH 218 (xm 226 23),xH 218 (xI 227 225 226 2),xH 218 (xL 228 227 2),xH 218 (xp 229 (.eqA false [0,0] (xt 223) (xt 228))),xN 230 218 229,xm 34 230]
def IH:=[xm 231 33,xm 232 231,xH 232 (xm 233 34),xH 232 (xT 234 233),xN 235 232 234]
def ABT:=[xw 8 false]
def IG:=[xm 236 33]
def IF:=xV 237 21 238
def IE:=[xm 239 34]
def ID:=xV 240 22 241
def ax:=xV 94 23 95
def vV:AC:=.seq (xS ay [9,10,13,14,15,17,19,21,22,23,93] (xD 93 0)) (.seq (.block 1 (xS aw [9,10,13,14,15,17,19,21,22,23,24] (.seq (xS av [9,10,13,14,15,17,19,21,22,23,24,25] (.block 2 (.loop vT))) (.seq (.regD IK [9,10,13,14,15,17,19,21,22,23,24,33] (xK [[],[],[1],[2],[0,3],[4],[5],[6],[5],[7,8],[9],[5],[11],[5],[12,13],[14],[10,15],[16],[17]])) (xQ IJ [9,10,13,14,15,17,19,21,22,23,33,212] 212 (xE ABU [8]) (.seq (.regD II [9,10,13,14,15,17,19,21,22,23,33,34] (xK [[],[],[1],[2],[0,3],[4],[5],[6],[5],[7,8],[9],[5],[11],[5],[12,13],[14],[10,15],[16],[17]])) (xQ IH [9,10,13,14,15,17,19,21,22,23,33,34,235] 235 (xE ABT [8]) (xQ IG [9,10,13,14,15,17,19,21,22,23,34,236] 236 (.reg IF [9,10,13,14,15,17,19,21,22,23,34]) (xS IE [9,10,13,14,15,17,19,21,22,23,239] (.cond (xt 239) (.reg ID [9,10,13,14,15,17,19,21,22,23]) .skip)))))))))) (.reg ax [9,10,13,14,15,17,19,21,22,23]))
def ar:=[xm 242 21,xa 243 17 8 1,xl 244 243 1,xA 245 244,xB 246 .eql 242 245,xm 247 246,xH 247 (xm 248 22),xH 247 (xa 249 19 8 1),xH 247 (xl 250 249 1),xH 247 (xA 251 250),xH 247 (xB 252 .eql 248 251),xN 253 247 252,xm 254 253,xH 254 (x0 255 20),xN 256 254 255,xm 8 256]
def c4:AC:=xS AF1 [0,1,2,3] (xS AF0 [0,1,2,3,9] (xS AFz [1,2,3,9,10] (xS AFy [1,2,3,9,10,11,12] (xQ AFx [1,2,3,9,10,11,50] 50 (xE AMM [8]) (xS AFw [2,3,9,10,11,13] (xS AFv [3,9,10,11,13,14] (xS AFu [3,9,10,11,13,14,15,16] (xS AFt [3,9,10,11,13,14,15,16,17,18] (.seq (.regA bD [9,10,13,14,15,16,17,18,19,20] (xK [[],[],[],[],[3],[2,4],[0,1,5],[6],[7],[7],[],[8,10],[9,11]]) (.take 0 (.take 1 (.take 2 (.take 3 (.take 4 (.take 5 (.pick (.alt 6 (.take 7 (.take 8 (.take 9 (.take 10 tq139)))) (.alt 10 (.take 6 (.take 7 (.take 8 (.take 9 tq139)))) .none)))))))))) (xQ bC [9,10,13,14,15,17,19,88] 88 (xE ABh [8]) (xS bB [9,10,13,14,15,17,19,21] (xS bA [9,10,13,14,15,17,19,21,22] (.seq (xS az [9,10,13,14,15,17,19,21,22,23] (.block 0 (.loop vV))) (xE ar [8]))))))))))))))
def c4R:List AR:=[.t 8]
theorem k4:AU 4 4 c4 c4R:=by kernel_rfl
def ADB:=[xo (.alloc 6 zl17)]
def ADA:=[xn 10 0,xm 11 1,xm 12 2,xc 13 60 [xt 10,xi 0,xt 11,xt 12],xn 9 13,xe 14 9 0,xe 15 9 1,xo (.alloc 7 zl17),xs 7 14 3,xm 8 15]
def AC9:=[xL 16 7 3,xs 6 16 3]
def c21:AC:=xS ADB [0,1,2,6] (xS ADA [6,7] (xE AC9 [6]))
def ANt:List AR:=[.c 6 3 true]
theorem k21:AU 21 3 c21 ANt:=by kernel_rfl
def AC4:=[xx 3 1,xo (.alloc 4 zl3),xv 5 0]
def AC3:=[xm 6 0,xL 7 3 3,x1 8 62 7,xp 9 (.build zl11 [(0,1,xi 1),(4,3,xt 8)]),xo (.callN (some 10) (xf 61) [xt 6,xt 9]),xe 11 10 0,xe 12 10 1,xs 4 11 13,xm 5 12]
def c22:AC:=xS AC4 [0,3,4] (xE AC3 [4,5])
def ANn:List AR:=[.c 4 13 true,.t 5]
theorem k22:AU 22 2 c22 ANn:=by kernel_rfl
def AC1:=[xx 4 1,xo (.alloc 6 zl3),xv 7 0]
def AC0:=[xm 11 0,xL 12 4 3,x2 13 22 11 12,xn 10 13,xe 14 10 0,xe 15 10 1,xo (.alloc 8 zl3),xs 8 14 13,xm 9 15]
def ACz:=[xm 16 9,xC 17 .neq 16 0]
def ANi:=[xp 18 (.build zl11 []),xm 19 9,xs 6 18 13,xm 7 19]
def ACy:=[xm 20 2,xC 21 .lss 20 0,xm 22 21,xF 22 (xm 23 2),xF 22 (xC 24 .gtr 23 131072),xO 25 22 24]
def ANh:=[xp 26 (.build zl11 []),xs 6 26 13,xv 7 5]
def ACx:=[xm 27 0,xL 28 4 3,x1 29 62 28,xm 30 2,xp 31 (.build zl11 [(0,1,xi 3),(4,3,xt 29),(3,1,xt 30)]),xo (.callN (some 32) (xf 61) [xt 27,xt 31]),xe 33 32 0,xe 34 32 1,xs 6 33 13,xm 7 34]
def c23:AC:=xS AC1 [0,2,4,6] (.seq (xS AC0 [0,2,4,6,9] (xS ACz [0,2,4,6,9,17] (.cond (xt 17) (xE ANi [6,7]) .skip))) (xQ ACy [0,2,4,6,25] 25 (xE ANh [6,7]) (xE ACx [6,7])))
def ANj:List AR:=[.c 6 13 true,.t 7]
theorem k23:AU 23 3 c23 ANj:=by kernel_rfl
def AA3:=[xo (.alloc 8 zl17),xv 9 0]
def AA2:=[xp 20 (.build [.nil 3 1,.nil 171 3,.nil 58 3] []),xo (.alloc 10 zl17),xs 10 20 3]
def AA1:=[xm 21 0,xm 22 1,xc 23 47 [xt 21,xt 22,xi 1048576],xm 11 23]
def AA0:=xV 24 1 25
def AAz:=[xv 12 0]
def AAy:=[xm 26 12,xm 27 2,xB 28 .lss 26 27]
def AAx:=[xm 31 11,xm 32 12,xC 33 .rem 32 20,xp 34 (.cint .u64 (xt 33)),xB 35 .shr 31 34,xC 36 .rem 35 3,xC 37 .eql 36 1]
def AAw:=[xa 38 10 0 1,xo (.take 39 (xt 38)),xm 40 12,xo (.bsl 41 3 1 [xt 40]),xo (.app 42 (xu 39) (xt 41) 3 1 8),xa 43 10 0 1,xo (.store (xt 43) (xu 42) 1)]
def Zo:=xV 29 12 30
def Z7:AC:=.seq (xS AAy [0,1,2,3,8,10,11,12,28] (xD 28 0)) (.seq (.block 1 (xS AAx [0,1,2,3,8,10,11,12,37] (.cond (xt 37) (.reg AAw [0,1,2,3,8,10,11,12]) .skip))) (.reg Zo [0,1,2,3,8,10,11,12]))
def AAv:=[xv 13 0]
def Z4:=[xm 44 13,xC 45 .lss 44 3]
def Z3:=[xm 48 0,xm 49 1,xc 50 47 [xt 48,xt 49,xi 1048576],xm 14 50]
def Z1:=[xm 51 14,xC 52 .rem 51 3,xC 53 .eql 52 0]
def Z0:=[xp 54 (.build zl7 [(0,1,xi 0),(1,1,xi 1)]),xp 55 (.build zl7 [(0,1,xi 1),(1,1,xi 1)]),xp 56 (.build zl7 [(0,1,xi 1),(1,1,xi 2)]),xp 57 (.build zl7 [(0,1,xi 3),(1,1,xi 2)]),xp 58 (.build zl7 [(0,1,xi 2),(1,1,xi 1)]),xp 59 (.build zl7 [(0,1,(.c (.v (.int .i64 (-1))))),(1,1,xi 1)]),xp 60 (.build zl7 [(0,1,xi 5),(1,1,xi 1)]),xp 61 (.build zl7 [(0,1,xi 7),(1,1,xi 3)]),xo (.bsl 62 133 2 [xt 54,xt 55,xt 56,xt 57,xt 58,xt 59,xt 60,xt 61]),xm 63 14,xC 64 .quo 63 3,xC 65 .rem 64 8,xI 66 62 65 2,xL 67 66 2,xo (.alloc 15 zl7),xs 15 67 2]
def Zz:=[xa 68 10 1 1,xo (.take 69 (xt 68)),xm 70 13,xL 71 15 2,xp 72 (.build zl9 [(0,1,xt 70),(1,2,xt 71)]),xo (.bsl 73 171 3 [xt 72]),xo (.app 74 (xu 69) (xt 73) 171 3 24),xa 75 10 1 1,xo (.store (xt 75) (xu 74) 1)]
def QH:=xV 76 1 77
def QI:=xV 46 13 47
def Z6:AC:=.seq (xS Z4 [0,1,2,3,8,10,13,45] (xD 45 2)) (.seq (.block 3 (xS Z3 [0,1,2,3,8,10,13,14] (xQ Z1 [0,1,2,3,8,10,13,14,53] 53 (xS Z0 [0,1,2,3,8,10,13,15] (.reg Zz [0,1,2,3,8,10,13])) (.reg QH [0,1,2,3,8,10,13])))) (.reg QI [0,1,2,3,8,10,13]))
def Zy:=[xm 78 0,xm 79 1,xc 80 47 [xt 78,xt 79,xi 4],xm 16 80]
def Zx:=xV 81 1 82
def Zw:=[xv 17 0]
def Zv:=[xm 83 17,xm 84 16,xB 85 .lss 83 84,xm 86 85,xH 86 (xm 87 3),xH 86 (xC 88 .gtr 87 1),xN 89 86 88,xm 90 89,xH 90 (xm 91 1),xH 90 (xm 92 0),xH 90 (xA 93 92),xH 90 (xB 94 .lss 91 93),xN 95 90 94]
def Zt:=[xm 99 0,xm 100 1,xm 101 2,xm 102 3,xC 103 .sub 102 1,xc 104 60 [xt 99,xt 100,xt 101,xt 103],xn 98 104,xe 105 98 0,xe 106 98 1,xo (.alloc 18 zl17),xs 18 105 3,xm 19 106]
def Zr:=[xa 107 10 2 1,xo (.take 108 (xt 107)),xL 109 18 3,xo (.bsl 110 58 3 [xt 109]),xo (.app 111 (xu 108) (xt 110) 58 3 72),xa 112 10 2 1,xo (.store (xt 112) (xu 111) 1)]
def Zq:=[xm 113 19,xm 1 113]
def Zu:=xV 96 17 97
def Z5:AC:=.seq (xS Zv [0,1,2,3,8,10,16,17,95] (xD 95 4)) (.seq (.block 5 (xS Zt [0,2,3,8,10,16,17,18,19] (xS Zr [0,2,3,8,10,16,17,19] (.reg Zq [0,1,2,3,8,10,16,17])))) (.reg Zu [0,1,2,3,8,10,16,17]))
def Zp:=[xL 114 10 3,xm 115 1,xs 8 114 3,xm 9 115]
def c60:AC:=xS AA3 [0,1,2,3,8] (xS AA2 [0,1,2,3,8,10] (xS AA1 [0,1,2,3,8,10,11] (xS AA0 [0,1,2,3,8,10,11] (.seq (xS AAz [0,1,2,3,8,10,11,12] (.block 0 (.loop Z7))) (.seq (xS AAv [0,1,2,3,8,10,13] (.block 2 (.loop Z6))) (xS Zy [0,1,2,3,8,10,16] (xS Zx [0,1,2,3,8,10,16] (.seq (xS Zw [0,1,2,3,8,10,16,17] (.block 4 (.loop Z5))) (xE Zp [8,9])))))))))
def AMH:List AR:=[.c 8 3 true,.t 9]
theorem k60:AU 60 4 c60 AMH:=by kernel_rfl
def YC:List GI:=[⟨none,.alloc 4 [.v (.int .i64 0),.v (.int .i64 0),.own 368 8 [],.own 84 4 []]⟩]
def YB:List GI:=[⟨none,.mv 11 (.t 1 false)⟩,
 ⟨none,.p 12 (.nilc (.t 11 false))⟩,
 ⟨none,.p 13 (.load (.t 12 false) 1 false)⟩,
 ⟨none,.p 14 (.bin .sub (.t 13 false) (.c (.v (.int .i64 1))))⟩,
 ⟨none,.p 15 (.nilc (.t 11 false))⟩,
 ⟨none,.store (.t 15 false) (.t 14 false) 1⟩]
def YA:List GI:=[⟨none,.mv 16 (.t 0 false)⟩,
 ⟨none,.call (some 17) (.c (.v (.func 45 []))) [(.t 16 false)]⟩,
 ⟨none,.mv 18 (.t 0 false)⟩,
 ⟨none,.call (some 19) (.c (.v (.func 45 []))) [(.t 18 false)]⟩,
 ⟨none,.p 20 (.build [.v (.int .i64 0),.v (.int .i64 0),.nil 368 8,.nil 84 4] [(0,1,(.t 17 false)),(1,1,(.t 19 false))])⟩,
 ⟨none,.alloc 5 [.v (.int .i64 0),.v (.int .i64 0),.own 368 8 [],.own 84 4 []]⟩,
 ⟨none,.store (.t 5 false) (.t 20 false) 4⟩]
def X0:List GI:=[⟨none,.mv 21 (.t 0 false)⟩,
 ⟨none,.call (some 22) (.c (.v (.func 45 []))) [(.t 21 false)]⟩,
 ⟨none,.mv 6 (.t 22 false)⟩]
def Xz:List GI:=[⟨none,.mv 7 (.c (.v (.int .i64 0)))⟩]
def Pz:List GI:=[⟨none,.mv 23 (.t 7 false)⟩,
 ⟨none,.mv 24 (.t 6 false)⟩,
 ⟨none,.p 25 (.bin .lss (.t 23 false) (.t 24 false))⟩,
 ⟨none,.mv 26 (.t 25 false)⟩,
 ⟨(some (26,true)),.mv 27 (.t 6 false)⟩,
 ⟨(some (26,true)),.p 28 (.bin .leq (.t 27 false) (.c (.v (.int .i64 32))))⟩,
 ⟨none,.p 29 (.pick (.t 26 false) (.t 28 false) (.c (.v (.bool false))))⟩,
 ⟨none,.mv 30 (.t 29 false)⟩,
 ⟨(some (30,true)),.mv 31 (.t 1 false)⟩,
 ⟨(some (30,true)),.p 32 (.nilc (.t 31 false))⟩,
 ⟨(some (30,true)),.p 33 (.load (.t 32 false) 1 false)⟩,
 ⟨(some (30,true)),.p 34 (.bin .geq (.t 33 false) (.c (.v (.int .i64 0))))⟩,
 ⟨none,.p 35 (.pick (.t 30 false) (.t 34 false) (.c (.v (.bool false))))⟩]
def Xx:List GI:=[⟨none,.mv 38 (.t 0 false)⟩,
 ⟨none,.call (some 39) (.c (.v (.func 114 []))) [(.t 38 false)]⟩,
 ⟨none,.mv 8 (.t 39 true)⟩]
def Xw:List GI:=[⟨none,.mv 40 (.t 8 false)⟩,
 ⟨none,.p 41 (.alen (.t 40 false))⟩,
 ⟨none,.p 42 (.bin .neq (.t 41 false) (.c (.v (.int .i64 8))))⟩]
def AFN:List GI:=[⟨none,.mv 43 (.t 1 false)⟩,
 ⟨none,.p 44 (.nilc (.t 43 false))⟩,
 ⟨none,.store (.t 44 false) (.c (.v (.int .i64 (-1)))) 1⟩]
def vM:List GI:=[⟨none,.p 45 (.load (.t 5 false) 4 true)⟩,
 ⟨none,.store (.t 4 false) (.t 45 false) 4⟩]
def Ti:List GI:=[⟨none,.p 46 (.faddr (.t 5 false) 2 1)⟩,
 ⟨none,.take 47 (.t 46 false)⟩,
 ⟨none,.mv 48 (.t 8 false)⟩,
 ⟨none,.p 49 (.iaddr (.t 48 false) (.c (.v (.int .i64 0))) 1)⟩,
 ⟨none,.p 50 (.load (.t 49 false) 1 false)⟩,
 ⟨none,.mv 51 (.t 8 false)⟩,
 ⟨none,.p 52 (.iaddr (.t 51 false) (.c (.v (.int .i64 1))) 1)⟩,
 ⟨none,.p 53 (.load (.t 52 false) 1 false)⟩,
 ⟨none,.p 54 (.build [.v (.int .i64 0),.v (.int .i64 0)] [(0,1,(.t 50 false)),(1,1,(.t 53 false))])⟩,
 ⟨none,.mv 55 (.t 8 false)⟩,
 ⟨none,.p 56 (.iaddr (.t 55 false) (.c (.v (.int .i64 2))) 1)⟩,
 ⟨none,.p 57 (.load (.t 56 false) 1 false)⟩,
 ⟨none,.mv 58 (.t 8 false)⟩,
 ⟨none,.p 59 (.iaddr (.t 58 false) (.c (.v (.int .i64 3))) 1)⟩,
 ⟨none,.p 60 (.load (.t 59 false) 1 false)⟩,
 ⟨none,.p 61 (.build [.v (.int .i64 0),.v (.int .i64 0)] [(0,1,(.t 57 false)),(1,1,(.t 60 false))])⟩,
 ⟨none,.mv 62 (.t 8 false)⟩,
 ⟨none,.p 63 (.iaddr (.t 62 false) (.c (.v (.int .i64 4))) 1)⟩,
 ⟨none,.p 64 (.load (.t 63 false) 1 false)⟩,
 ⟨none,.p 65 (.bin .eql (.t 64 false) (.c (.v (.int .i64 1))))⟩,
 ⟨none,.mv 66 (.t 8 false)⟩,
 ⟨none,.p 67 (.iaddr (.t 66 false) (.c (.v (.int .i64 5))) 1)⟩,
 ⟨none,.p 68 (.load (.t 67 false) 1 false)⟩,
 ⟨none,.p 69 (.bin .eql (.t 68 false) (.c (.v (.int .i64 1))))⟩,
 ⟨none,.mv 70 (.t 8 false)⟩,
 ⟨none,.p 71 (.iaddr (.t 70 false) (.c (.v (.int .i64 6))) 1)⟩,
 ⟨none,.p 72 (.load (.t 71 false) 1 false)⟩,
 ⟨none,.p 73 (.bin .eql (.t 72 false) (.c (.v (.int .i64 1))))⟩,
 ⟨none,.mv 74 (.t 8 false)⟩,
 ⟨none,.p 75 (.iaddr (.t 74 false) (.c (.v (.int .i64 7))) 1)⟩,
 ⟨none,.p 76 (.load (.t 75 false) 1 false)⟩,
 ⟨none,.p 77 (.bin .eql (.t 76 false) (.c (.v (.int .i64 1))))⟩,
 ⟨none,.p 78 (.build [.v (.int .i64 0),.v (.int .i64 0),.v (.int .i64 0),.v (.int .i64 0),.v (.bool false),.v (.bool false),.v (.bool false),.v (.bool false)] [(0,2,(.t 54 false)),(2,2,(.t 61 false)),(4,1,(.t 65 false)),(5,1,(.t 69 false)),(6,1,(.t 73 false)),(7,1,(.t 77 false))])⟩,
 ⟨none,.bsl 79 368 8 [(.t 78 false)]⟩,
 ⟨none,.app 80 (.t 47 true) (.t 79 false) 368 8 40⟩,
 ⟨none,.p 81 (.faddr (.t 5 false) 2 1)⟩,
 ⟨none,.store (.t 81 false) (.t 80 true) 1⟩]
def Xy:List GI:=[⟨none,.mv 36 (.t 7 false)⟩,
 ⟨none,.p 37 (.bin .add (.t 36 false) (.c (.v (.int .i64 1))))⟩,
 ⟨none,.mv 7 (.t 37 false)⟩]
def Kb:AC:=(.seq (.seq (.reg Pz [0,1,4,5,6,7,35]) (.cond (.t 35 false) .skip (.exit 0))) (.seq (.block 1 (.seq (.reg Xx [0,1,4,5,6,7,8]) (.seq (.seq (.reg Xw [0,1,4,5,6,7,8,42]) (.cond (.t 42 false) (.seq (.reg AFN [4,5]) (.seq (.reg vM [4]) .ret)) .skip)) (.regD Ti [0,1,4,5,6,7] [[],[0],[],[2],[2,3],[],[5],[5,6],[2,3,4,5,6,7],[],[9],[9,10],[],[12],[12,13],[9,10,11,12,13,14],[],[16],[16,17],[16,17,18],[],[20],[20,21],[20,21,22],[],[24],[24,25],[24,25,26],[],[28],[28,29],[28,29,30],[2,3,4,5,6,7,8,9,10,11,12,13,14,15,16,17,18,19,20,21,22,23,24,25,26,27,28,29,30,31],[2,3,4,5,6,7,8,9,10,11,12,13,14,15,16,17,18,19,20,21,22,23,24,25,26,27,28,29,30,31,32],[0,1,2,3,4,5,6,7,8,9,10,11,12,13,14,15,16,17,18,19,20,21,22,23,24,25,26,27,28,29,30,31,32,33],[0,1,2,3,4,5,6,7,8,9,10,11,12,13,14,15,16,17,18,19,20,21,22,23,24,25,26,27,28,29,30,31,32,33,34],[0,1,2,3,4,5,6,7,8,9,10,11,12,13,14,15,16,17,18,19,20,21,22,23,24,25,26,27,28,29,30,31,32,33,34,35]])))) (.reg Xy [0,1,4,5,6,7])))
def Tg:List GI:=[⟨none,.mv 82 (.t 0 false)⟩,
 ⟨none,.call (some 83) (.c (.v (.func 45 []))) [(.t 82 false)]⟩,
 ⟨none,.mv 9 (.t 83 false)⟩]
def Tf:List GI:=[⟨none,.mv 84 (.t 6 false)⟩,
 ⟨none,.p 85 (.faddr (.t 5 false) 2 1)⟩,
 ⟨none,.p 86 (.load (.t 85 false) 1 false)⟩,
 ⟨none,.p 87 (.alen (.t 86 false))⟩,
 ⟨none,.p 88 (.bin .neq (.t 84 false) (.t 87 false))⟩,
 ⟨none,.mv 89 (.t 88 false)⟩,
 ⟨(some (89,false)),.mv 90 (.t 9 false)⟩,
 ⟨(some (89,false)),.p 91 (.bin .lss (.t 90 false) (.c (.v (.int .i64 0))))⟩,
 ⟨none,.p 92 (.pick (.t 89 false) (.c (.v (.bool true))) (.t 91 false))⟩,
 ⟨none,.mv 93 (.t 92 false)⟩,
 ⟨(some (93,false)),.mv 94 (.t 9 false)⟩,
 ⟨(some (93,false)),.mv 95 (.t 1 false)⟩,
 ⟨(some (93,false)),.p 96 (.nilc (.t 95 false))⟩,
 ⟨(some (93,false)),.p 97 (.load (.t 96 false) 1 false)⟩,
 ⟨(some (93,false)),.p 98 (.bin .gtr (.t 94 false) (.t 97 false))⟩,
 ⟨none,.p 99 (.pick (.t 93 false) (.c (.v (.bool true))) (.t 98 false))⟩]
def vL:List GI:=[⟨none,.mv 100 (.t 1 false)⟩,
 ⟨none,.p 101 (.nilc (.t 100 false))⟩,
 ⟨none,.store (.t 101 false) (.c (.v (.int .i64 (-1)))) 1⟩]
def Te:List GI:=[⟨none,.mv 10 (.c (.v (.int .i64 0)))⟩]
def MX:List GI:=[⟨none,.mv 102 (.t 10 false)⟩,
 ⟨none,.mv 103 (.t 9 false)⟩,
 ⟨none,.p 104 (.bin .lss (.t 102 false) (.t 103 false))⟩,
 ⟨none,.mv 105 (.t 104 false)⟩,
 ⟨(some (105,true)),.mv 106 (.t 1 false)⟩,
 ⟨(some (105,true)),.p 107 (.nilc (.t 106 false))⟩,
 ⟨(some (105,true)),.p 108 (.load (.t 107 false) 1 false)⟩,
 ⟨(some (105,true)),.p 109 (.bin .geq (.t 108 false) (.c (.v (.int .i64 0))))⟩,
 ⟨none,.p 110 (.pick (.t 105 false) (.t 109 false) (.c (.v (.bool false))))⟩]
def Td:List GI:=[⟨none,.p 113 (.faddr (.t 5 false) 3 1)⟩,
 ⟨none,.take 114 (.t 113 false)⟩,
 ⟨none,.mv 115 (.t 0 false)⟩,
 ⟨none,.mv 116 (.t 1 false)⟩,
 ⟨none,.callF (some 117) (.c (.v (.func 320 []))) [(.t 115 false),(.t 116 false)]⟩,
 ⟨none,.bsl 118 84 4 [(.t 117 false)]⟩,
 ⟨none,.app 119 (.t 114 true) (.t 118 false) 84 4 64⟩,
 ⟨none,.p 120 (.faddr (.t 5 false) 3 1)⟩,
 ⟨none,.store (.t 120 false) (.t 119 true) 1⟩]
def MW:List GI:=[⟨none,.mv 111 (.t 10 false)⟩,
 ⟨none,.p 112 (.bin .add (.t 111 false) (.c (.v (.int .i64 1))))⟩,
 ⟨none,.mv 10 (.t 112 false)⟩]
def Ka:AC:=(.seq (.seq (.reg MX [0,1,4,5,9,10,110]) (.cond (.t 110 false) .skip (.exit 2))) (.seq (.block 3 (.regA Td [0,1,4,5,9,10] [[],[0],[],[],[2,3],[2,3,4],[0,1,2,3,4,5],[0,1,2,3,4,5,6],[0,1,2,3,4,5,6,7]] (.take 0 (.take 2 (.take 3 (.pick (.alt 1 (.take 4 (.take 5 (.take 6 (.take 7 (.take 8 .done))))) (.alt 4 (.take 1 (.take 5 (.take 6 (.take 7 (.take 8 .done))))) .none)))))))) (.reg MW [0,1,4,5,9,10])))
def Tc:List GI:=[⟨none,.p 121 (.load (.t 5 false) 4 true)⟩,
 ⟨none,.store (.t 4 false) (.t 121 false) 4⟩]
def ALd:AC:=(.seq (.reg YC [0,1,4]) (.seq (.reg YB [0,1,4]) (.seq (.reg YA [0,1,4,5]) (.seq (.reg X0 [0,1,4,5,6]) (.seq (.seq (.reg Xz [0,1,4,5,6,7]) (.block 0 (.loop Kb))) (.seq (.reg Tg [0,1,4,5,6,9]) (.seq (.seq (.reg Tf [0,1,4,5,9,99]) (.cond (.t 99 false) (.reg vL [0,1,4,5,9]) .skip)) (.seq (.seq (.reg Te [0,1,4,5,9,10]) (.block 2 (.loop Ka))) (.seq (.reg Tc [4]) .ret)))))))))
def yg:List AR:=[.c 4 4 true]
theorem ARD:DO Tryz.prog GLx 320 2 ALd yg=true:=by kernel_rfl
def Zd:=[xx 1 0,xo (.alloc 2 zl17)]
def Zc:=[xa 6 1 0 1,xl 7 6 1,xA 8 7,xo (.mksz 9 (xt 8) [xz]),xa 10 1 1 1,xl 11 10 1,xA 12 11,xo (.mksz 13 (xt 12) zl9),xa 14 1 2 1,xl 15 14 1,xA 16 15,xo (.mksz 17 (xt 16) zl17),xp 18 (.build [.nil 3 1,.nil 171 3,.nil 58 3] [(0,1,xt 9),(1,1,xt 13),(2,1,xt 17)]),xo (.alloc 3 zl17),xs 3 18 3]
def Zb:=[xa 19 3 0 1,xl 20 19 1,xa 21 1 0 1,xl 22 21 1,xo (.cpy (some 23) (xt 20) (xt 22) 1)]
def Za:=[xa 24 3 1 1,xl 25 24 1,xa 26 1 1 1,xl 27 26 1,xo (.cpy (some 28) (xt 25) (xt 27) 3)]
def ZZ:=[xa 29 1 2 1,xl 30 29 1,xA 31 30,xv 32 0]
def AAu:=[xB 33 .lss 32 31]
def AAt:=[xm 34 32,xI 35 30 32 3,xL 36 35 3,xo (.alloc 5 zl17),xm 4 34,xs 5 36 3]
def AAs:=[xa 37 3 2 1,xl 38 37 1,xm 39 4,xL 40 5 3,x1 41 62 40,xI 42 38 39 3,xs 42 41 3]
def AAr:=xW 43 32
def T9:AC:=xS AAu [2,3,30,31,32,33] (.seq (xD 33 0) (.seq (.block 1 (xS AAt [2,3,4,5,30,31,32] (.regD AAs [2,3,30,31,32] (xK [[],[0],[],[],[3],[1,2,4],[5]])))) (.reg AAr [2,3,30,31,32])))
def ZY:=[xL 44 3 3,xs 2 44 3]
def c62:AC:=xS Zd [1,2] (.seq (.regA Zc [1,2,3] (xK [[],[0],[1],[2],[],[4],[5],[6],[],[8],[9],[10],[3,7,11],[],[12,13]]) (.take 0 (.take 1 (.take 2 (.take 4 (.take 5 (.take 6 (.take 8 (.take 9 (.take 10 (.pick (.alt 3 (.pick (.alt 7 tq142 (.alt 11 tq144 (.alt 13 tq145 .none)))) (.alt 7 (.pick (.alt 3 tq142 (.alt 11 tq147 (.alt 13 tq148 .none)))) (.alt 11 (.pick (.alt 3 tq144 (.alt 7 tq147 (.alt 13 tq149 .none)))) (.alt 13 (.pick (.alt 3 tq145 (.alt 7 tq148 (.alt 11 tq149 .none)))) .none))))))))))))))) (xS Zb [1,2,3] (xS Za [1,2,3] (.seq (xS ZZ [2,3,30,31,32] (.block 0 (.loop T9))) (xE ZY [2])))))
def AMF:List AR:=[.c 2 3 true]
theorem k62:AU 62 1 c62 AMF:=by kernel_rfl
def BI (h:List Row) (r lw:Nat) (x:List Int) (lf:Int) (a b:Row):List Row:=(h.set r (rdr x)).set lw (.cells [.v (.int .i64 lf)])++[a,b]
section
variable {h:List Row} {r lw:Nat} (hr:r <h.length) (hl:lw <h.length) (hne:r≠lw) (x:List Int) (lf:Int) (a b:Row)
include hr hne
theorem Ji:(BI h r lw x lf a b)[r]?=some (rdr x):=by
 unfold BI;rw[AUQ (by simpa using hr),AUJ (Ne.symm hne),AUY (by simpa using hr)]
omit hr hne in
include hl in
theorem Jj:(BI h r lw x lf a b)[lw]?=some (.cells [.v (.int .i64 lf)]):=by
 unfold BI;rw[AUQ (by simpa using hl),AUY (by simpa using hl)]
omit hr hne in
theorem ud:(BI h r lw x lf a b)[h.length]?=some a:=by
 unfold BI;rw[AUa (by simp)];simp
omit hr hne in
theorem Gf:(BI h r lw x lf a b)[h.length+1]?=some b:=by
 unfold BI;rw[AUa (by simp)];simp
theorem Hf (y:List Int):(BI h r lw x lf a b).set r (rdr y)=BI h r lw y lf a b:=by
 unfold BI;rw[AVc _ _ (by simpa using hr),List.set_comm _ _ (Ne.symm hne),AVB]
omit hr hne in
include hl in
theorem XG (m:Int):(BI h r lw x lf a b).set lw (.cells [.v (.int .i64 m)])=BI h r lw x m a b:=by
 unfold BI;rw[AVc _ _ (by simpa using hl),AVB]
omit hr hne in
theorem XH (c:Row):(BI h r lw x lf a b).set h.length c=BI h r lw x lf c b:=by
 unfold BI;rw[AVp _ _ (by simp)];simp
omit hr hne in
theorem Hg (c:Row):(BI h r lw x lf a b).set (h.length+1) c=BI h r lw x lf a c:=by
 unfold BI;rw[AVp _ _ (by simp)];simp
omit hr hne in
theorem If:(BI h r lw x lf a b).length=h.length+2:=by simp[BI]
end
def rB (op n:Int) (ins:List Ivl) (kids:List F):Row:= .cells [.v (.int .i64 op),.v (.int .i64 n),.own 368 8 (ins.map Ivl.V),.own 84 4 (kids.map F.V)]
theorem AIy (b:Bool):(b01 b==1)=b:=by cases b<;>rfl
theorem ALc {Q:AExit→St→Prop} {h:List Row} {r lw:Nat} (hr:r <h.length) (hl:lw <h.length) (hne:r≠lw) (X:Ivl) (hX:X.ok) (rest:List Int) (hb:rest.length≤2^43) (lf:Int) (hlf:0≤lf) (a:Row) (op m:Int) (ins:List Ivl)
  (n:Nat) (hn:n≤32) (hk:ins.length <n)
  (hQ:Q .normal ⟨[(0,.ref r 0),(1,.ref lw 0),(4,.ref h.length 0),(5,.ref (h.length+1) 0),(6,.v (.int .i64 n)),(7,.v (.int .i64 (ins.length+1)))],BI h r lw rest lf a (rB op m (ins++[X]) [])⟩):
  awp Tryz.prog GLx Kb Q ⟨[(0,.ref r 0),(1,.ref lw 0),(4,.ref h.length 0),(5,.ref (h.length+1) 0),(6,.v (.int .i64 n)),(7,.v (.int .i64 ins.length))],BI h r lw (Cx X++rest) lf a (rB op m ins [])⟩:=by
 have k1:(n:Int)≤32:=by omega
 simp only[Kb,AB,AA,AG,AE,Pz];simp[hk,k1,hlf,Jj hl,AD];have p1:=AEl [X.ln,X.ld,X.hn,X.hd,b01 X.lo,b01 X.ho,b01 X.li,b01 X.hi] (by
  intro z hz;simp only[AT7,AUE,or_false]at hz;rcases hz with rfl|rfl|rfl|rfl|rfl|rfl|rfl|rfl
  ·exact hX.1
  ·exact hX.2.1
  ·exact hX.2.2.1
  ·exact hX.2.2.2
  all_goals (unfold b01;split<;>(unfold i64;omega))) (BI h r lw (Cx X++rest) lf a (rB op m ins [])) r rest (by simp;omega) (Ji hr hne _ _ _ _)
 simp only[Xx];simp;refine⟨_,_,p1,?_⟩;rw[Hf hr hne];simp only[Xw];simp;have hroom:Ae (ins.length+1) 40=true:=by simp[Ae];omega
 have w1:IntKind.i64.wrap ((ins.length:Int)+1)=ins.length+1:=AJ;simp only[AW,Ti];simp[Gf,rB,AN,hroom,AIy,Hg];simp only[Xy];simp[w1];simpa[rB,Ivl.V]using hQ
theorem AFP {h:List Row} {r lw:Nat} (hr:r <h.length) (hl:lw <h.length) (hne:r≠lw) (rest:List Int) (lf:Int) (hlf:0≤lf) (a:Row) (op m:Int):∀(todo ins:List Ivl),(∀x∈todo,x.ok)→(ins++todo).length≤32→(todo.flatMap Cx++rest).length≤2^43→
  awp Tryz.prog GLx (.loop Kb) (λe s=>e= .exit 0∧s=⟨[(0,.ref r 0),(1,.ref lw 0),(4,.ref h.length 0),(5,.ref (h.length+1) 0),(6,.v (.int .i64 (ins++todo).length)),(7,.v (.int .i64 (ins++todo).length)),(35,.v (.bool false))],BI h r lw rest lf a (rB op m (ins++todo) [])⟩)
   ⟨[(0,.ref r 0),(1,.ref lw 0),(4,.ref h.length 0),(5,.ref (h.length+1) 0),(6,.v (.int .i64 (ins++todo).length)),(7,.v (.int .i64 ins.length))],BI h r lw (todo.flatMap Cx++rest) lf a (rB op m ins [])⟩:=by
 intro todo;induction todo with
 |nil=>
  intro ins _ hn hb;refine A9 ?_;simp only[Kb,AB,AA,AG,AE,Pz];simp[AM]
 |cons x todo ih=>
  intro ins hx hn hb;have h2:=ih (ins++[x]) (λy hy=>hx y (by simp[hy])) (by simpa using hn) (by simp at hb ⊢;omega);simp only[AUB,AWo]at h2;refine Bl (s1:=⟨[(0,.ref r 0),(1,.ref lw 0),(4,.ref h.length 0),(5,.ref (h.length+1) 0),(6,.v (.int .i64 (ins++x::todo).length)),(7,.v (.int .i64 (ins++[x]).length))],BI h r lw (todo.flatMap Cx++rest) lf a (rB op m (ins++[x]) [])⟩) ?_ h2;have:=ALc (Q:=λe s'=>match e with| .normal=>s'=⟨[(0,.ref r 0),(1,.ref lw 0),(4,.ref h.length 0),(5,.ref (h.length+1) 0),(6,.v (.int .i64 (ins++x::todo).length)),(7,.v (.int .i64 (ins++[x]).length))],BI h r lw (todo.flatMap Cx++rest) lf a (rB op m (ins++[x]) [])⟩|e=>e= .exit 0∧s'=⟨[(0,.ref r 0),(1,.ref lw 0),(4,.ref h.length 0),(5,.ref (h.length+1) 0),(6,.v (.int .i64 (ins++x::todo).length)),(7,.v (.int .i64 (ins++x::todo).length)),(35,.v (.bool false))],BI h r lw rest lf a (rB op m (ins++x::todo) [])⟩)
   hr hl hne x (hx x (by simp)) (todo.flatMap Cx++rest) (by simp at hb ⊢;omega) lf hlf a op m ins (ins++x::todo).length hn (by simp) (by simp)
  simp at this ⊢;refine Ag _ (λe s hh=>?_) this;cases e<;>exact hh
theorem OM {n m:Nat} (h:n≤m):∀ds:List D,D.lts n ds=true→D.lts m ds=true
 |[],_=>rfl
 |d::ds,hd=>by
  simp only[D.lts,AT1]at hd ⊢;exact⟨Dz h d hd.1,OM h ds hd.2⟩
theorem Hp {n m:Nat} (h:n≤m):∀row:Row,Row.low n row=true→Row.low m row=true:=by
 intro row hr;cases row with
 |cells ds=>exact OM h ds hr
 |map=>rfl
 |dead=>rfl
 |obj=>simp[Row.low]at hr
theorem WN {h:List Row} {r lw:Nat} {x:List Int} {lf:Int} {a b:Row} (hl:Low h) (ha:Row.low 0 a=true) (hb:Row.low 0 b=true):Low (BI h r lw x lf a b):=by
 intro row hrow;rw[If];unfold BI at hrow;rcases AUK.1 hrow with hm|hm
 ·rcases AUv hm with hm|rfl
  ·rcases AUv hm with hm|rfl
   ·exact Hp (by omega) row (hl row hm)
   ·rfl
  ·rfl
 ·simp only[AT7,AUE,or_false]at hm;rcases hm with rfl|rfl
  ·exact Hp (by omega) _ ha
  ·exact Hp (by omega) _ hb
def uR (f:F):Prop:=∀(h:List Row) (r lw:Nat) (left:Int) (rest:List Int),r <h.length→lw <h.length→r≠lw→Low h→f.size≤left→left≤96→(CC f++rest).length≤2^43→
 h[r]?=some (rdr (CC f++rest))→h[lw]?=some (.cells [.v (.int .i64 left)])→FX 320 [.ref r 0,.ref lw 0] h [.v f.V] ((h.set r (rdr rest)).set lw (.cells [.v (.int .i64 (left-f.size))]))
theorem ALb {Q:AExit→St→Prop} {h:List Row} {r lw:Nat} (hr:r <h.length) (hl:lw <h.length) (hne:r≠lw) (hlow:Low h) (X:F) (hX:uR X) (rest:List Int) (hb:(CC X++rest).length≤2^43) (lf:Int) (hlf:X.size≤lf) (h96:lf≤96) (a:Row) (ha:Row.low 0 a=true)
  (op m:Int) (ins:List Ivl) (kids:List F) (n:Nat) (hn:n≤96) (hk:kids.length <n)
  (hQ:Q .normal ⟨[(0,.ref r 0),(1,.ref lw 0),(4,.ref h.length 0),(5,.ref (h.length+1) 0),(9,.v (.int .i64 n)),(10,.v (.int .i64 (kids.length+1)))],BI h r lw rest (lf-X.size) a (rB op m ins (kids++[X]))⟩):
  awp Tryz.prog GLx Ka Q ⟨[(0,.ref r 0),(1,.ref lw 0),(4,.ref h.length 0),(5,.ref (h.length+1) 0),(9,.v (.int .i64 n)),(10,.v (.int .i64 kids.length))],BI h r lw (CC X++rest) lf a (rB op m ins kids)⟩:=by
 have hpos:=X.size_pos;have h0:0≤lf:=by omega
 have w1:IntKind.i64.wrap ((kids.length:Int)+1)=kids.length+1:=AJ;have hroom:Ae (kids.length+1) 64=true:=by simp[Ae];omega
 have key:∀b,Row.low 0 b=true→FX 320 [.ref r 0,.ref lw 0] (BI h r lw (CC X++rest) lf a b) [.v X.V] (BI h r lw rest (lf-X.size) a b):=by
  intro b hb';have:=hX (BI h r lw (CC X++rest) lf a b) r lw lf rest (by rw[If];omega) (by rw[If];omega) hne (WN hlow ha hb') hlf h96 hb (Ji hr hne _ _ _ _) (Jj hl _ _ _ _);rw[Hf hr hne,XG hl]at this;exact this
 simp only[Ka,AB,AA,AG,AE,MX];simp[hk,h0,Jj hl,AD];rw[BO];refine BG _ (λs hs=>⟨s,.inl rfl,hs⟩) ?_;simp only[Td];simp[Gf,rB,Hg];obtain⟨cs,hcs,hcl⟩:∃cs,X.V= .agg cs∧cs.length=4:=by
  cases X;exact⟨_,F.V_eq _ _ _ _,rfl⟩
 have fin:Q .normal ⟨[(0,.ref r 0),(1,.ref lw 0),(4,.ref h.length 0),(5,.ref (h.length+1) 0),(9,.v (.int .i64 n)),(10,.v (.int .i64 (kids.length+1)))],BI h r lw rest (lf-X.size) a (.cells [.v (.int .i64 op),.v (.int .i64 m),.own 368 8 (ins.map Ivl.V),.own 84 4 (kids.map F.V++[.agg cs])])⟩:=by
  have:=hQ;simpa[rB,hcs]using this
 constructor
 ·refine⟨_,_,key _ rfl,?_⟩;simp[hcs,hcl,hroom,Gf,Hg,AN];simp only[MW];simp[w1];exact fin
 ·refine⟨_,_,key _ rfl,?_⟩;simp[hcs,hcl,hroom,Gf,Hg,AN];simp only[MW];simp[w1];exact fin
theorem AFO {h:List Row} {r lw:Nat} (hr:r <h.length) (hl:lw <h.length) (hne:r≠lw) (hlow:Low h) (rest:List Int) (a:Row) (ha:Row.low 0 a=true) (op m:Int) (ins:List Ivl):∀(todo kids:List F) (lf:Int),(∀x∈todo,uR x)→(kids++todo).length≤96→
  (todo.map F.size).sum≤lf→lf≤96→(todo.flatMap CC++rest).length≤2^43→
  awp Tryz.prog GLx (.loop Ka) (λe s=>e= .exit 2∧s=⟨[(0,.ref r 0),(1,.ref lw 0),(4,.ref h.length 0),(5,.ref (h.length+1) 0),(9,.v (.int .i64 (kids++todo).length)),(10,.v (.int .i64 (kids++todo).length)),(110,.v (.bool false))],BI h r lw rest (lf-(todo.map F.size).sum) a (rB op m ins (kids++todo))⟩)
   ⟨[(0,.ref r 0),(1,.ref lw 0),(4,.ref h.length 0),(5,.ref (h.length+1) 0),(9,.v (.int .i64 (kids++todo).length)),(10,.v (.int .i64 kids.length))],BI h r lw (todo.flatMap CC++rest) lf a (rB op m ins kids)⟩:=by
 intro todo;induction todo with
 |nil=>
  intro kids lf _ hn hs h96 hb;refine A9 ?_;simp only[Ka,AB,AA,AG,AE,MX];simp[AM]
 |cons x todo ih=>
  intro kids lf hx hn hs h96 hb;simp only[AUD,AVE]at hs;have h2:=ih (kids++[x]) (lf-x.size) (λy hy=>hx y (by simp[hy])) (by simpa using hn) (by omega) (by omega) (by simp at hb ⊢;omega);simp only[AUB,AWo]at h2;have e1:lf-x.size-((todo.map F.size).sum:Nat)=lf-(((x::todo).map F.size).sum:Nat):=by simp;omega
  rw[e1]at h2;refine Bl (s1:=⟨[(0,.ref r 0),(1,.ref lw 0),(4,.ref h.length 0),(5,.ref (h.length+1) 0),(9,.v (.int .i64 (kids++x::todo).length)),(10,.v (.int .i64 (kids++[x]).length))],BI h r lw (todo.flatMap CC++rest) (lf-x.size) a (rB op m ins (kids++[x]))⟩) ?_ h2;have:=ALb (Q:=λe s'=>match e with| .normal=>s'=⟨[(0,.ref r 0),(1,.ref lw 0),(4,.ref h.length 0),(5,.ref (h.length+1) 0),(9,.v (.int .i64 (kids++x::todo).length)),(10,.v (.int .i64 (kids++[x]).length))],BI h r lw (todo.flatMap CC++rest) (lf-x.size) a (rB op m ins (kids++[x]))⟩|e=>False)
   hr hl hne hlow x (hx x (by simp)) (todo.flatMap CC++rest) (by simp at hb ⊢;omega) lf (by omega) h96 a ha op m ins kids (kids++x::todo).length hn (by simp) (by simp)
  simp at this ⊢;refine Ag _ (λe s hh=>?_) this;cases e with
  |normal=>exact hh
  |ret=>exact hh.elim
  |exit=>exact hh.elim
def F.rd (f:F):Prop:=∀g∈f.nodes,g.ok1∧g.ins.length≤32
theorem F.rd_kid {op n:Int} {ins:List Ivl} {kids:List F} (h:(F.mk op n ins kids).rd) {k:F} (hk:k∈kids):k.rd:=λg hg=>h g (by
 rw[F.nodes_eq];exact AVX _ (AUp.2 ⟨k,hk,hg⟩))
theorem vJ (op n:Int) (ins:List Ivl) (kids:List F):CC (.mk op n ins kids)=Cl (.mk op n ins kids)++kids.flatMap CC:=by
 unfold CC;rw[F.nodes_eq,AUN,List.flatMap_assoc]
theorem XE {h:List Row} {r:Nat} {x:Row} (hr:h[r]?=some x):h.set r x=h:=by
 apply AUj;intro i;rw[AUe];split
 ·rename_i hi;subst hi;have hl:=(AT4.1 hr).1;rw[if_pos hl,hr]
 ·rfl
def F5 (h:List Row) (r lw:Nat) (x:List Int) (lf:Int) (a:Row):List Row:=(h.set r (rdr x)).set lw (.cells [.v (.int .i64 lf)])++[a]
theorem S6 {h:List Row} {r lw:Nat} (hr:r <h.length) (hne:r≠lw) (x:List Int) (lf:Int) (a:Row):(F5 h r lw x lf a)[r]?=some (rdr x):=by
 unfold F5;rw[AUQ (by simpa using hr),AUJ (Ne.symm hne),AUY (by simpa using hr)]
theorem N6 {h:List Row} {r lw:Nat} (hr:r <h.length) (hne:r≠lw) (x y:List Int) (lf:Int) (a:Row):(F5 h r lw x lf a).set r (rdr y)=F5 h r lw y lf a:=by
 unfold F5;rw[AVc _ _ (by simpa using hr),List.set_comm _ _ (Ne.symm hne),AVB]
theorem WD {h:List Row} {r lw:Nat} (x:List Int) (lf:Int) (a:Row):(F5 h r lw x lf a).length=h.length+1:=by simp[F5]
theorem WE {h:List Row} {r lw:Nat} (x:List Int) (lf:Int) (a b:Row):F5 h r lw x lf a++[b]=BI h r lw x lf a b:=by simp[F5,BI]
theorem XF {h:List Row} {r lw:Nat} (hne:r≠lw) (hl:lw <h.length) {x:List Int} (hr:h[r]?=some (rdr x)) (lf:Int) (a:Row):(h++[a]).set lw (.cells [.v (.int .i64 lf)])=F5 h r lw x lf a:=by
 unfold F5;rw[AVc _ _ hl,XE hr]
theorem XM:∀f:F,f.rd→uR f:=by
 refine F.ind λop n ins kids ih hrd=>?_;intro h r lw left rest hr hl hne hlow hsz h96 hb hhr hhl;obtain⟨⟨o1,o2,o3,o4⟩,hi32⟩:=hrd (.mk op n ins kids) (by rw[F.nodes_eq];simp);simp only[F.op,F.n,F.ins]at o1 o2 o3 hi32;rw[vJ]at hb hhr;have hse:=F.size_eq op n ins kids;have hkl:=F.kids_len kids;have hA:Row.low 0 (.cells [.v (.int .i64 0),.v (.int .i64 0),.own 368 8 [],.own 84 4 []])=true:=rfl;have g1:=AO [.cells [.v (.int .i64 0),.v (.int .i64 0),.own 368 8 [],.own 84 4 []]] hhl;have w1:IntKind.i64.wrap (left-1)=left-1:=AJ;have hm:=XF hne hl hhr (left-1) (.cells [.v (.int .i64 0),.v (.int .i64 0),.own 368 8 [],.own 84 4 []]);generalize hAA:Row.cells [.v (.int .i64 0),.v (.int .i64 0),.own 368 8 [],.own 84 4 []]=A at hA g1 hm;have hE:Cl (.mk op n ins kids)++kids.flatMap CC++rest=Af op++(Af n++(Af ins.length++(ins.flatMap Cx++(Af kids.length++(kids.flatMap CC++rest))))):=by simp[Cl,F.op,F.n,F.ins,F.kids]
 rw[hE]at hm hb;refine Ai ARD rfl (by simp) (by
  intro row hrow;simp only[AUt];rcases AUv hrow with hm|rfl
  ·rcases AUv hm with hm|rfl
   ·exact hlow row hm
   ·rfl
  ·rfl) (by simp[D.lt]) ?_
 simp only[ALd,AB,AA,AG,AE,YC,YB,AS];simp[hAA,g1,w1,AN,hm];simp only[YA];simp;refine⟨_,_,(p45 op o1 _ r _ (S6 hr hne _ _ _)),?_⟩;rw[N6 hr hne];simp;refine⟨_,_,(p45 n o2 _ r _ (S6 hr hne _ _ _)),?_⟩;rw[N6 hr hne];have hB:Row.cells [.v (.int .i64 op),.v (.int .i64 n),.own 368 8 [],.own 84 4 []]=rB op n [] []:=rfl;simp[AN,hAA,WD,WE];simp only[X0];simp;refine⟨_,_,(p45 ins.length (by unfold i64;omega) _ r _ (Ji hr hne _ _ _ _)),?_⟩;rw[Hf hr hne];simp only[Xz];simp;have hI:=AFP hr hl hne (Af kids.length++(kids.flatMap CC++rest)) (left-1) (by omega) A op n ins [] o3 (by simpa using hi32) (by simp at hb ⊢;omega);simp at hI;refine HV hI ?_;simp only[Tg];simp;refine⟨_,_,(p45 kids.length (by unfold i64;omega) _ r _ (Ji hr hne _ _ _ _)),?_⟩;rw[Hf hr hne];have k1:¬(left-1 <(kids.length:Int)):=by omega
 have k2:¬((kids.length:Int) <0):=by omega
 simp only[Tf];simp[Gf,Jj hl,rB,k1,k2,AD];simp only[Te];simp;have hK:=AFO hr hl hne hlow rest A hA op n ins kids [] (left-1) (λx hx=>ih x hx (F.rd_kid hrd hx)) (by simp;omega) (by omega) (by omega) (by simp at hb ⊢;omega);simp[rB]at hK;refine HV hK ?_;subst hAA;simp only[Tc];simp[ud,Gf,XH,AN,yg,F.V_eq,AF,D.one?,D.vs?,D.v?];rw[show left-1-((kids.map F.size).sum:Nat)=left-((F.mk op n ins kids).size:Nat) by omega];exact⟨_,rfl⟩
mutual
def F.hold (I:Int→Int→Bool):F→Th→Bool
 | .mk op n ins kids,t=>
  if op=1 then t.cs.any λc=>I c n
  else if op=2 then (V7 t n).isSome&&AE9 ins (J4 t n).1 (J4 t n).2
  else if op=3 then t.ps.any λp=>F.hold1 I kids p
  else if op=4 then F.holdA I kids t
  else if op=5 then F.holdO I kids t
  else if op=6 then !F.hold1 I kids t
  else true
def F.hold1 (I:Int→Int→Bool):List F→Th→Bool|[],_=>false|k::_,t=>k.hold I t
def F.holdA (I:Int→Int→Bool):List F→Th→Bool|[],_=>true|k::ks,t=>k.hold I t&&F.holdA I ks t
def F.holdO (I:Int→Int→Bool):List F→Th→Bool|[],_=>false|k::ks,t=>k.hold I t||F.holdO I ks t
end
theorem La (I:Int→Int→Bool) (t:Th):∀l,F.holdA I l t=l.all λk=>k.hold I t
 |[]=>rfl
 |k::ks=>by simp[F.holdA,La I t ks]
theorem LZ (I:Int→Int→Bool) (t:Th):∀l,F.holdO I l t=l.any λk=>k.hold I t
 |[]=>rfl
 |k::ks=>by simp[F.holdO,LZ I t ks]
theorem Low.apps {h X:List Row} (hl:Low h) (hx:∀row∈X,Row.low (h.length+X.length) row=true):Low (h++X):=by
 intro row hrow;rw[AT5];rcases AUK.1 hrow with h1|h1
 ·exact Hp (Nat.le_add_right _ _) row (hl row h1)
 ·exact hx row h1
theorem G3 {n:Nat}:∀(xs:List V),D.lts n (xs.map .v)=true:=λxs=>EB λd hd=>by
 obtain⟨x,_,rfl⟩:=AT9.1 hd;rfl
theorem LX (n:Nat) (f:F):Row.low n (.cells f.cells)=true:=by
 obtain⟨op,k,ins,kids⟩:=f;simp[F.cells,Row.low,D.lts,D.lt]
theorem GA (n:Nat) (t:Th):Row.low n (.cells t.cells)=true:=by
 obtain⟨cs,vs,ps⟩:=t;simp[Th.cells,Row.low,D.lts,D.lt,AL]
section
variable {ps:List V} {bs:List Bool} {H:List Row} {a b x:Nat}
theorem AQs (g:F) (t:Th) (ha:H[a]?=some (.cells [.ref x 0])) (hb:H[b]?=some (.cells t.cells)) (hl:Low H) (R:Bool)
  (hp:FX 71 [.ref x 0,.v g.V,.v t.V] (H++[.cells g.cells]) [.v (.bool R)] (H++[.cells g.cells])):
  FX 155 [.v g.V,.ref a 0,.ref b 0] H [.v (.bool R)] H:=by
 refine Ai ATE rfl (AT6 _) hl (by simp[D.lt]) ?_;have ha':=AO [.cells g.cells] ha;have hb':=AO [.cells g.cells] hb;obtain⟨op,n,ins,kids⟩:=g;obtain⟨cs,vs,pa⟩:=t;simp only[F.cells,F.op,F.n,F.ins,F.kids,F.V_eq,Th.cells,Th.cs,Th.vs,Th.ps,Th.V_eq]at*;simp only[Wn,AB,AA,qH,qG,AS];simp[AL]at hp ha' hb' ⊢;simp[ha',hb'];refine⟨_,_,hp,?_⟩;simp[AF,ADU]
theorem AQm (g:F) (c:Nat) (hc:H[c]?=some (.cells [.func 155 [.ref a 0,.ref b 0]])) (hl:Low H) (R:Bool)
  (hp:FX 155 [.v g.V,.ref a 0,.ref b 0] (H++[.cells g.cells]) [.v (.bool R)] (H++[.cells g.cells])):
  FX 161 [.v g.V,.ref c 0] H [.v (.bool (!R))] H:=by
 refine Ai AS8 rfl (AT6 _) hl (by simp[D.lt]) ?_;have hc':=AO [.cells g.cells] hc;obtain⟨op,n,ins,kids⟩:=g;simp only[F.cells,F.op,F.n,F.ins,F.kids,F.V_eq]at*;simp only[AON,AB,AA,pn,pm,AS];simp at hp hc' ⊢;simp[hc',D.vs?,D.v?];refine⟨_,_,hp,?_⟩;simp[AF,ADR]
theorem AQr (f:F) (hps:ps.length≤64) (hbs:bs.length=4096) (hx:H[x]?=some (CM ps bs)) (ha:H[a]?=some (.cells [.ref x 0])) (hb:H[b]?=some (.cells f.cells)) (c:Int):
  FX 156 [.v (.int .i64 c),.ref a 0,.ref b 0] H [.v (.bool (isT ps.length bs c f.n))] H:=by
 refine AV ATD rfl ?_;have hp:=AQq ps bs hps hbs H x hx c f.n;obtain⟨op,n,ins,kids⟩:=f;simp only[F.cells,F.op,F.n,F.ins,F.kids]at*;simp only[AOe,AB,AA,qF,qE,AS];simp[ha,hb];refine⟨_,_,hp,?_⟩;simp[AF,ADT]
theorem AQn (op n:Int) (ins:List Ivl) (k:F) (ks:List F) (t:Th) (ha:H[a]?=some (.cells [.ref x 0])) (hb:H[b]?=some (.cells (F.mk op n ins (k::ks)).cells)) (hl:Low H) (R:Bool)
  (hp:FX 71 [.ref x 0,.v k.V,.v t.V] (H++[.cells t.cells]) [.v (.bool R)] (H++[.cells t.cells])):
  FX 160 [.v t.V,.ref a 0,.ref b 0] H [.v (.bool R)] H:=by
 refine Ai AS9 rfl (AT6 _) hl (by simp[D.lt]) ?_;have ha':=AO [.cells t.cells] ha;have hb':=AO [.cells t.cells] hb;obtain⟨op',n',ins',kids'⟩:=k;obtain⟨cs,vs,pa⟩:=t;simp only[F.cells,F.op,F.n,F.ins,F.kids,F.V_eq,Th.cells,Th.cs,Th.vs,Th.ps,Th.V_eq,AUD]at*;simp only[AOO,AB,AA,AW,pq,po,AS];simp[AL]at hp ha' hb' ⊢;simp[ha',hb'];refine⟨_,_,hp,?_⟩;simp[AF,ADS]
end
end Go.Va
namespace Go.Va
open Go.Proofs
theorem AJZ (xs:List Int) (hb:xs.length≤2^45):PX 283 [AL .u8 xs,AL .u8 xs] [.bool true]:=by
 refine AK ASN rfl ?_;simp only[ANL,AB,AA,AG,AE,gl,gj,AY];simp[AL,AD];simp only[gg];simp;refine Ad xs.length (λk=>⟨[(0,.v (AL .u8 xs)),(1,.v (AL .u8 xs)),(12,.v (.int .i64 xs.length)),(13,.v (.int .i64 k))],[]⟩) (by simp[AL]) ?_;intro k hk;simp only[gm,AB,AA,AG,AE,ge];simp[AL];by_cases h1:k <xs.length
 ·have hx:xs[k]?=some xs[k]:=AT2 h1;have hw:IntKind.i64.wrap ((k:Int)+1)=k+1:=AJ;rw[if_pos (by omega),AD];simp only[AA,gZ];simp only[AW,gY];simp[hx,AD];simp only[gX];simp[hw,h1]
 ·have:k=xs.length:=by omega
  subst this;rw[if_neg (by omega),AM];simp[AA,AF,gW,ACX]
theorem APp (f:F) (hok:f.ok) (hrd:f.rd) (h96:f.size≤96) (hE:BM f=0) (hb:(CC f).length≤2^43):PX 282 [AL .u8 (CC f)] [f.V,.int .i64 0]:=by
 refine AK ASO rfl ?_;have q1:=(AJj f hok hb).fsp;rw[if_pos hE,hE]at q1;have q2:=(AJZ (CC f) (by omega)).fsp;simp at q1 q2;simp only[ANM,AB,AA,AG,AE,iB,iA,AY];simp;refine⟨_,_,(p44 (CC f) (by omega) _),?_⟩;simp only[gz];simp[AN];simp only[gw];simp;have hR:=XM f hrd [.cells [.v (.int .i64 0),.v (.int .i64 0),.own 368 8 [],.own 84 4 []],rdr (CC f),.cells [.v (.int .i64 96)]] 1 2 96 [] (by simp) (by simp) (by decide) (by
  intro row hrow;simp only[AT7,AUE,or_false]at hrow;rcases hrow with rfl|rfl|rfl<;>rfl) (by omega) (by omega) (by simpa using hb) (by simp) (by simp)
 simp at hR;obtain⟨c0,c1,c2,c3,hV⟩:∃a b c d,f.V= .agg [a,b,c,d]:=by
  cases f;exact⟨_,_,_,_,F.V_eq _ _ _ _⟩
 rw[hV]at hR q1;refine⟨_,_,hR,?_⟩;have k1:¬(96-(f.size:Int) <0):=by omega
 simp[AN,D.toRow];simp only[gv];have hend:=AEk [Row.cells [.v (.int .i64 0),.v (.int .i64 0),.own 368 8 [],.own 84 4 []],rdr [],.cells [.v (.int .i64 (96-(f.size:Int)))],.cells [.v c0,.v c1,.v c2,.v c3]] 1 rfl;simp[k1];refine⟨_,_,hend,?_⟩;simp[AD];simp only[gu];simp[D.one?,D.vs?,D.v?];refine⟨_,_,q1 _,?_⟩;simp only[AW,gt];simp;refine⟨_,_,q2 _,?_⟩;simp[AD];simp only[gp];simp[AN,D.toRow,D.one?,D.vs?,D.v?,hV,AF,ACY,CB]
theorem LM {l:List Ivl} (h:Fn l=0):l.length≤32:=by
 unfold Fn at h;split at h
 ·cases h
 ·split at h
  ·cases h
  ·omega
theorem Pp {f:F} (h:BM f=0):f.size≤96:=by
 unfold BM at h;split at h
 ·cases h
 ·omega
theorem Xl {f:F} (hok:f.ok) (h:BM f=0):f.rd:=by
 intro g hg;refine⟨hok.1 g hg,?_⟩;unfold BM at h;split at h
 ·cases h
 ·split at h
  ·rename_i ha;have:=AUI.1 ha g hg;unfold Aw at this;split at this
   ·cases this
   ·rename_i hn;by_cases h2:g.op=2
    ·simp[h2]at this;exact LM this.2.2.2
    ·have:¬0 <g.ins.length:=λhh=>hn (.inl ⟨h2,hh⟩);omega
  ·cases h
theorem MU {l:List Clm} {c:Clm} (hc:c∈l):(CC c.body).length≤(BP l).length:=by
 unfold BP;have:(Bd c).length≤(l.flatMap Bd).length:=by
  induction l with
  |nil=>cases hc
  |cons x l ih=>
   simp only[AUN,AT5];rcases AT7.1 hc with rfl|hc
   ·omega
   ·have:=ih hc;omega
 simp only[Bd,BN,AT5]at this ⊢;omega
theorem AQa (l:List Clm) (hl:∀c∈l,c.ok) (hz:CR l=0) (hn:l.length≤32) (hb:(BP l).length≤2^39):PX 205 [AL .u8 (BP l)] [.list (l.map Clm.V),.int .i64 0]:=by
 refine AK AS1 rfl ?_;have q1:=(AJt l hl (by omega) hb).fsp;rw[if_pos hz,hz]at q1;have q2:=(AJZ (BP l) (by omega)).fsp;simp at q1 q2;have hall:=Ll hz;have hlen:∀c∈l,(CC c.body).length≤2^39:=λc hc=>AUk (MU hc) hb;simp only[AOD,AB,AA,AG,AE,nu,nr,AY];simp;refine⟨_,_,(p44 (BP l) (by omega) _),?_⟩;simp only[nq];simp;refine⟨_,_,(p45 l.length (by unfold i64;omega) _ 0 (l.flatMap Bd) rfl),?_⟩;simp only[np];simp;simp only[nn];simp;refine Aa l.length (λk s=>s.e=[(0,.v (AL .u8 (BP l))),(4,.ref 0 0),(5,.v (.int .i64 l.length)),(6,.own 130 5 ((l.take k).map Clm.V)),(7,.v (.int .i64 k))]∧∃J,s.h=rdr ((l.drop k).flatMap Bd)::J) ⟨rfl,[],by simp⟩ ?_;rintro k ⟨se,sh⟩ hk ⟨he,J,hJ⟩;simp only at he hJ;subst he;subst hJ;have hk32:(l.length:Int)≤32:=by omega
 simp only[nv,AB,AA,AG,AE,nl];by_cases h1:k <l.length
 ·have hd:l.drop k=l[k]::l.drop (k+1):=AVO h1;have hc:=hl _ (AUs h1);have hcl:=hlen _ (AUs h1);have hf0:=hall _ (AUs h1);obtain⟨c,hcc⟩:∃c,c=l[k]:=⟨_,rfl⟩;rw[←hcc]at hd hc hcl hf0;simp[h1,hk32,AD];simp only[AA,nj];simp;obtain⟨R,hR⟩:∃R,R=(l.drop (k+1)).flatMap Bd:=⟨_,rfl⟩;have hX:(BJ c.refs++(BN (CC c.body)++R)).length≤2^39:=by
   have e1:l.flatMap Bd=(l.take k).flatMap Bd++(BJ c.refs++(BN (CC c.body)++R)):=by
    conv=>lhs;rw[←AUr k l,AVr,hd,AUN,←hR]
    simp[Bd]
   unfold BP at hb;rw[e1]at hb;simp only[AT5]at hb ⊢;omega
  have hg:=EC c.refs;simp only[BJ,BN,AT5]at hX;have hXd:(l.drop k).flatMap Bd=BJ c.refs++(BN (CC c.body)++R):=by rw[hd,AUN,←hR];simp[Bd]
  rw[hXd,←hR];refine⟨_,_,(AEl c.refs hc.1 _ 0 (BN (CC c.body)++R) (by simp only[BN,AT5];omega) rfl),?_⟩;simp[AN,D.toRow];simp only[ni];simp;refine⟨_,_,(AJz (CC c.body) _ 0 R (by omega) rfl),?_⟩;have hD:=(APp c.body hc.2.2 (Xl hc.2.2 hf0) (Pp hf0) hf0 (by omega)).fsp;rw[F.V_flds]at hD;simp[AL]at hD;simp;refine⟨_,_,hD _,?_⟩;simp[AN,D.toRow];simp only[nh];simp[AD];simp only[VG];simp[AN,D.toRow];have hroom:Ae (k+1) 88=true:=by simp[Ae];omega
  have hmin:min k l.length=k:=by omega
  have htk:(l.map Clm.V).take (k+1)=(l.map Clm.V).take k++[Clm.V c]:=by
   rw[←AUd,←AUd,AVC h1,AUZ,hcc];rfl
  have hw:IntKind.i64.wrap ((k:Int)+1)=k+1:=AJ;simp only[VF];simp[D.one?,D.vs?,D.v?,hroom,hmin,htk];simp only[nk];simp[hw,h1,Clm.V,AL]
 ·have:k=l.length:=by omega
  subst this;simp[AM];simp only[AA,VE,AE];simp;have hend:=AEk (rdr []::J) 0 rfl;refine⟨_,_,hend,?_⟩;simp[AD];simp only[VD];simp;refine⟨_,_,q1 _,?_⟩;simp;simp only[VC];simp;refine⟨_,_,q2 _,?_⟩;simp[AD];simp only[VB];simp[AF,ADF,CB]
def hZ (h:List Row) (x:Nat) (f:F) (t:Th):List Row:=[.cells [.ref x 0],.cells f.cells,.cells t.cells,.cells [.func 155 [.ref h.length 0,.ref (h.length+2) 0]]]
theorem Pm {h:List Row} {x:Nat} (f:F) (t:Th) (hl:Low h) (hx:x <h.length):Low (h++hZ h x f t):=by
 refine hl.apps λrow hrow=>?_;simp only[hZ,AT7,AUE,or_false]at hrow;rcases hrow with rfl|rfl|rfl|rfl
 ·simp[Row.low,D.lts,D.lt,hZ];omega
 ·exact LX _ f
 ·exact GA _ t
 ·simp[Row.low,D.lts,D.lt,hZ]
theorem AFA {h:List Row} {x:Nat} {r:Row} (f:F) (t:Th) (hx:h[x]?=some r):(h++hZ h x f t)[x]?=some r:=AO _ hx
theorem AFB (h:List Row) (x:Nat) (f:F) (t:Th):(h++hZ h x f t)[h.length]?=some (.cells [.ref x 0]):=by simp[hZ]
theorem ALZ (h:List Row) (x:Nat) (f:F) (t:Th):(h++hZ h x f t)[h.length+1]?=some (.cells f.cells):=by simp[hZ]
theorem ATi (h:List Row) (x:Nat) (f:F) (t:Th):(h++hZ h x f t)[h.length+2]?=some (.cells t.cells):=by simp[hZ]
theorem ATh (h:List Row) (x:Nat) (f:F) (t:Th):(h++hZ h x f t)[h.length+3]?=some (.cells [.func 155 [.ref h.length 0,.ref (h.length+2) 0]]):=by simp[hZ]
def V4 (ps:List V) (bs:List Bool) (f:F):Prop:=∀t:Th,t.ok→∀(h:List Row) (x:Nat),h[x]?=some (CM ps bs)→Low h→
 FX 71 [.ref x 0,.v f.V,.v t.V] h [.v (.bool (f.hold (isT ps.length bs) t))] h
theorem AE8 {ps:List V} {bs:List Bool} (f:F) (cs:List Int) (vs:List Val) (pa:List Th) (h:List Row) (x:Nat) (hx:h[x]?=some (CM ps bs)) (hps:ps.length≤64) (hbs:bs.length=4096) (hn:cs.length≤2^30):
  FX 151 [.v (AL .i64 cs),.func 156 [.ref h.length 0,.ref (h.length+1) 0]] (h++hZ h x f (.mk cs vs pa)) [.v (.bool (cs.any λc=>isT ps.length bs c f.n))] (h++hZ h x f (.mk cs vs pa)):=by
 have hidx:IdxR Tryz.prog GLx 156 [.ref h.length 0,.ref (h.length+1) 0] (cs.map (.int .i64)) (h++hZ h x f (.mk cs vs pa)) (cs.findIdx? λc=>isT ps.length bs c f.n) (h++hZ h x f (.mk cs vs pa)):=
  IdxR.map λc _=>AQr f hps hbs (AFA f _ hx) (AFB h x f _) (ALZ h x f _) c
 have:=un _ 156 _ (FV.r 156 h.length 0 [.ref (h.length+1) 0]) (cs.map (.int .i64)) (by simp;omega) (by
  intro x hx;obtain⟨y,_,rfl⟩:=AT9.1 hx;exact⟨_,rfl⟩) hidx
 rw[CU]at this;exact this
theorem AE7 {ps:List V} {bs:List Bool} (cs:List Int) (vs:List Val) (pa:List Th) (h:List Row) (x:Nat) (hx:h[x]?=some (CM ps bs)) (hl:Low h) (op n:Int) (ins:List Ivl) (k:F) (ih:V4 ps bs k) (hn:pa.length≤2^30) (hp:∀p∈pa,p.ok):
  FX 153 [.v (.list (pa.map Th.V)),.func 160 [.ref h.length 0,.ref (h.length+1) 0]] (h++hZ h x (.mk op n ins [k]) (.mk cs vs pa)) [.v (.bool (pa.any λp=>k.hold (isT ps.length bs) p))] (h++hZ h x (.mk op n ins [k]) (.mk cs vs pa)):=by
 have hlow:=Pm (.mk op n ins [k]) (.mk cs vs pa) hl (CE hx);have hidx:IdxR Tryz.prog GLx 160 [.ref h.length 0,.ref (h.length+1) 0] (pa.map Th.V) (h++hZ h x (.mk op n ins [k]) (.mk cs vs pa)) (pa.findIdx? λp=>k.hold (isT ps.length bs) p) (h++hZ h x (.mk op n ins [k]) (.mk cs vs pa)):=
  IdxR.map λp hm=>AQn op n ins k [] p (AFB h x _ _) (ALZ h x _ _) hlow _ (ih p (hp p hm) _ x (AO _ (AFA _ _ hx)) (hlow.app (GA _ p)))
 have:=AEg _ 160 _ (FV.r 160 h.length 0 [.ref (h.length+1) 0]) (pa.map Th.V) (by simp;omega) (by
  intro x hx;obtain⟨y,_,rfl⟩:=AT9.1 hx;exact y.V3) hidx
 rw[CU]at this;exact this
theorem Xi {ps:List V} {bs:List Bool} (f:F) (h:List Row) (x:Nat) (hx:h[x]?=some (CM ps bs)) (hl:Low h) (k:F) (ih:V4 ps bs k) (t:Th) (ht:t.ok) (X:List Row) (hX:∀row∈X,∃g:F,row= .cells g.cells):
  FX 155 [.v k.V,.ref h.length 0,.ref (h.length+2) 0] (h++hZ h x f t++X) [.v (.bool (k.hold (isT ps.length bs) t))] (h++hZ h x f t++X):=by
 have hlow:=(Pm f t hl (CE hx)).apps (X:=X) (by
  intro row hrow;obtain⟨g,rfl⟩:=hX row hrow;exact LX _ g)
 exact AQs k t (AO _ (AFB h x f t)) (AO _ (ATi h x f t)) hlow _ (ih t ht _ x (AO _ (AO _ (AFA f t hx))) (hlow.app (LX _ k)))
theorem yM (kids:List F):∀x∈kids.map F.V,∃cs,x=V.agg cs∧cs.length=4:=by
 intro x hx;obtain⟨k,_,rfl⟩:=AT9.1 hx;obtain⟨ko,kn,ki,kk⟩:=k;exact⟨_,F.V_eq ..,rfl⟩
theorem TW (f:F) (h:Aw f=true) (ho:f.op=3∨f.op=6):∃k,f.kids=[k]:=by
 unfold Aw at h;by_cases hc:(f.op≠2∧0 <f.ins.length)∨(f.op≠2∧f.op≠1∧f.n≠0)
 ·rw[if_pos hc]at h;cases h
 ·rw[if_neg hc,if_neg (by omega),if_neg (by omega),if_neg (by omega),if_pos ho]at h
  match f.kids,h with
  |[k],_=>exact⟨k,rfl⟩
theorem vE (f:F) (h:Aw f=true):f.ins.length≤32:=by
 unfold Aw at h;by_cases hc:(f.op≠2∧0 <f.ins.length)∨(f.op≠2∧f.op≠1∧f.n≠0)
 ·rw[if_pos hc]at h;cases h
 ·by_cases h2:f.op=2
  ·rw[if_neg hc,if_neg (by omega),if_neg (by omega),if_pos h2]at h;exact LM (of_decide_eq_true h).2.2.2
  ·omega
theorem p71 {ps:List V} {bs:List Bool} (hps:ps.length≤64) (hbs:bs.length=4096):∀f:F,f.ok→f.nodes.all Aw=true→V4 ps bs f:=by
 refine F.ind λop n ins kids ih hok hfm=>?_;have hsz:=hok.2;rw[F.size_eq]at hsz;have hkl:=F.kids_len kids;have hfo:Aw (.mk op n ins kids)=true:=by
  rw[F.nodes_eq]at hfm;simp only[AVl,AT1]at hfm;exact hfm.1
 have hfk:∀k∈kids,k.nodes.all Aw=true:=by
  intro k hk;rw[F.nodes_eq]at hfm;simp only[AVl,AT1]at hfm;rw[AUI]at hfm ⊢;exact λg hg=>hfm.2 g (AUp.2 ⟨k,hk,hg⟩)
 have ih':∀k∈kids,V4 ps bs k:=λk hk=>ih k hk (F.ok_kid hok hk) (hfk k hk);have ok1:=hok.1 (.mk op n ins kids) (by rw[F.nodes_eq];simp);intro t ht h x hx hl;refine Ai k71 rfl (AT6 _) hl (by simp[D.lt]) ?_;obtain⟨R,hR⟩:∃R,F.hold (isT ps.length bs) (.mk op n ins kids) t=R:=⟨_,rfl⟩;rw[hR];rw[F.hold]at hR;have q2:=(AQp t n ht).fsp;have q2b:=λh1 h2=>(AQo ins ok1.2.2.1 (by have:=vE _ hfo;simp only[F.ins]at this;omega) (J4 t n).1 (J4 t n).2 h1 h2).fsp;have Wn:=λk hk=>Xi (.mk op n ins kids) h x hx hl k (ih' k hk) t ht;have hlow:=Pm (.mk op n ins kids) t hl (CE hx);have hvn:i64 (J4 t n).1∧i64 (J4 t n).2:=by
  unfold J4 V7;cases hf:t.vs.find? λx=>x.a==n with
  |none=>exact⟨⟨by decide,by decide⟩,⟨by decide,by decide⟩⟩
  |some y=>
   obtain⟨cs,vs,pa⟩:=t;obtain⟨o1,o2,o3,o4,o5⟩:=ht;exact(o4 y (List.mem_of_find?_eq_some hf)).2
 replace q2b:=q2b hvn.1 hvn.2
 clear hvn;have hc4:op=4→FX 149 [.v (.list (kids.map F.V)),.func 161 [.ref (h.length+3) 0]] (h++hZ h x (.mk op n ins kids) t) [.v (.bool (!kids.all λk=>k.hold (isT ps.length bs) t))] (h++hZ h x (.mk op n ins kids) t):=by
  intro _;have hidx:IdxR Tryz.prog GLx 161 [.ref (h.length+3) 0] (kids.map F.V) (h++hZ h x (.mk op n ins kids) t) (kids.findIdx? λk=> !k.hold (isT ps.length bs) t) (h++hZ h x (.mk op n ins kids) t):=
   IdxR.map λk hk=>AQm k _ (ATh h x _ t) hlow _ (Wn k hk [.cells k.cells] (by intro row hrow;exact⟨k,AUC.1 hrow⟩))
  have:=uo _ 161 _ (FV.r 161 (h.length+3) 0 []) (kids.map F.V) (by simp;omega) (yM kids) hidx;rw[En]at this;exact this
 have hc5:op=5→FX 149 [.v (.list (kids.map F.V)),.func 155 [.ref h.length 0,.ref (h.length+2) 0]] (h++hZ h x (.mk op n ins kids) t) [.v (.bool (kids.any λk=>k.hold (isT ps.length bs) t))] (h++hZ h x (.mk op n ins kids) t):=by
  intro _;have hidx:IdxR Tryz.prog GLx 155 [.ref h.length 0,.ref (h.length+2) 0] (kids.map F.V) (h++hZ h x (.mk op n ins kids) t) (kids.findIdx? λk=>k.hold (isT ps.length bs) t) (h++hZ h x (.mk op n ins kids) t):=
   IdxR.map λk hk=>by have:=Wn k hk [] (by simp);rw[AUq]at this;exact this
  have:=uo _ 155 _ (FV.r 155 h.length 0 [.ref (h.length+2) 0]) (kids.map F.V) (by simp;omega) (yM kids) hidx;rw[CU]at this;exact this
 obtain⟨cs,vs,pa⟩:=t;have ht':=ht;obtain⟨o1,o2,o3,o4,o5⟩:=ht';have q1:=AE8 (.mk op n ins kids) cs vs pa h x hx hps hbs o1;simp only[F.holdA,F.holdO,La,LZ]at hR;simp only[c71,AB,AA,AG,AE,AAA,z8,z7,AS];simp only[Th.cs,Th.ps,F.n]at hR q1;simp only[hZ,F.cells,F.op,F.n,F.ins,F.kids,F.V_eq,Th.cells,Th.cs,Th.vs,Th.ps,Th.V_eq]at*;simp[AL,AN]at*;simp only[z6];simp;by_cases b1:op=1
 ·simp[b1]at hR;simp[b1,AB,AA,zz];rw[b1]at q1;refine⟨_,_,q1,?_⟩;simp[AF,Md,hR]
 ·simp[b1]at hR;simp[b1,AB,AA,AE];simp only[zy];simp;by_cases b2:op=2
  ·simp[b2]at hR;simp[b2,AB,AA,zx];refine⟨_,_,q2 _,?_⟩;generalize V7 (Th.mk cs vs pa) n=O at*;generalize J4 (Th.mk cs vs pa) n=N at*;simp[A5]at q2b;simp[A5,AN,zw];cases O with
   |none=>simp at hR;simp[AF,Md,hR]
   |some y=>
    simp at hR;simp;refine⟨_,_,q2b _,?_⟩;simp[AF,Md,hR]
  ·simp[b2]at hR;simp[b2,AB,AA,AE];simp only[zu];simp;by_cases b3:op=3
   ·obtain⟨k,hk⟩:=TW _ hfo (.inl b3);simp only[F.kids]at hk;subst hk;have q3:=AE7 cs vs pa h x hx hl op n ins k (ih' k (by simp)) o3 o5;simp[hZ,F.cells,F.op,F.n,F.ins,F.kids,F.V_eq,Th.cells,Th.cs,Th.vs,Th.ps,Th.V_eq,AL]at q3;simp[b3,F.hold1]at hR q3;simp[b3,AB,AA,zt];refine⟨_,_,q3,?_⟩;simp[AF,Md,hR]
   ·simp[b3]at hR;simp[b3,AB,AA,AE];simp only[ZC];simp;by_cases b4:op=4
    ·have q4:=hc4 b4;simp[b4]at hR q4;simp[b4,AB,AA,ZB];refine⟨_,_,q4,?_⟩;simp[AF,Md,hR]
    ·simp[b4]at hR;simp[b4,AB,AA,AE];simp only[ZA];simp;by_cases b5:op=5
     ·have q5:=hc5 b5;simp[b5]at hR q5;simp[b5,AB,AA,Y9];refine⟨_,_,q5,?_⟩;simp[AF,Md,hR]
     ·simp[b5]at hR;simp[b5,AB,AA,AE];simp only[Y8];simp;by_cases b6:op=6
      ·obtain⟨k,hk⟩:=TW _ hfo (.inr b6);simp only[F.kids]at hk;subst hk;have q6:=Wn k (by simp) [];obtain⟨ko,kn,ki,kk⟩:=k;simp[F.V_eq]at q6;simp[b6,F.hold1]at hR q6;simp[b6,AB,AW,Y7,F.V_eq];refine⟨_,_,q6,?_⟩;simp[AF,Md,hR]
      ·simp[b6]at hR;simp[b6,AD,AA,Y6,AF,Md,hR]
theorem DZ {P:Program} {GL:AX} {q:Opd} {ps:List Nat} {asg body:AC} {Q:AExit→St→Prop} {s:St} (n:Nat) (hn:s.h.length=n) (fid:Nat) (caps rets:List D) (h1 h':List Row) (tag:Tag)
  (hq:Db (q.ev s.e)=some (fid,caps)) (hh:s.h++[An P GL .ready (cpE s.e) ps asg body]=h1) (hf:FSp P GL fid (.yld n::caps) h1 rets h')
  (hr:h'[n]?=some (An P GL tag (cpE s.e) ps asg body)) (he:Bo Q ⟨s.e,h'.set n .dead⟩ tag):awp P GL (.rangeF q ps asg body) Q s:=by
 subst hn;exact Ca fid caps rets h1 h' tag hq hh hf hr he
def okC (nc:Int) (g:F):Bool:= !(decide (g.op=1)&&decide (nc≤g.n))
theorem AFD {f:F} (h:BM f=0):f.nodes.all Aw=true:=by
 unfold BM at h;split at h
 ·cases h
 ·split at h
  ·assumption
  ·cases h
theorem Xc (X J:List Row):K9 X.length (X++J)=X++List.replicate J.length .dead:=by
 simp[K9]
theorem XX {h:List Row} (hl:Low h) (m:Nat):Low (h++List.replicate m .dead):=hl.apps (by
 intro row hrow;rw[List.eq_of_mem_replicate hrow];rfl)
section
variable {ps:List V} {bs:List Bool} (h:List Row) (x:Nat) (A B C:Row) (e0:Env)
def X25 (h:List Row) (x:Nat) (A B C:Row) (e0:Env) (v:Int) (t:Tag):List Row:=
 h++[.cells [.ref x 0],A,B,.cells [.v (.bool false)],.cells [.v (.int .i64 v)],C,An Tryz.prog GLx t e0 [23] Ue Ud]
theorem y25 (h3:AH e0 3= .ref h.length 0) (h6:AH e0 6= .ref (h.length+3) 0) (h7:AH e0 7= .ref (h.length+4) 0) (hx:h[x]?=some (CM ps bs)) (g:F) (J:List Row):∃J2,YSp Tryz.prog GLx (h.length+6) [.v g.V] (X25 h x A B C e0 0 .ready++J) (okC ps.length g)
   ((if okC ps.length g then X25 h x A B C e0 0 .ready else X25 h x A B C e0 7 (.done none))++(J++J2)):=by
 refine⟨[.cells g.cells],Cn (e0:=e0) (ps:=[23]) (asg:=Ue) (body:=Ud) (by simp[X25]) rfl ?_⟩;have q:=λZ=>p69 ps bs (h++Z) x (AO Z hx);have hok:okC ps.length g= !(decide (g.op=1)&&decide ((ps.length:Int)≤g.n)):=rfl;generalize okC ps.length g=b at*;obtain⟨op,n,ins,kids⟩:=g;simp only[F.cells,F.op,F.n,F.ins,F.kids,F.V_eq,X25]at*;simp only[Fo,Ue,Ud,AA,AG,AB,AE,ACf];simp[h3,h6,h7,AN];rw[BO];refine BG _ (λs hs=>⟨s,.inl rfl,hs⟩) ?_;simp only[ACe];simp[h3,h6,h7];by_cases b1:op=1
 ·simp[b1]at hok ⊢;by_cases b2:(ps.length:Int)≤n
  ·simp[b2]at hok;subst hok
   constructor
   ·refine⟨_,_,q _,?_⟩;simp[b2,AB,AA,iu,h6,h7,AN,AF,CN]
   ·refine⟨_,_,q _,?_⟩;simp[b2,AB,AA,iu,h6,h7,AN,AF,CN]
  ·simp[b2]at hok;subst hok
   constructor
   ·refine⟨_,_,q _,?_⟩;simp[b2,AD,CN]
   ·refine⟨_,_,q _,?_⟩;simp[b2,AD,CN]
 ·simp[b1]at hok ⊢;simp[hok,AD,CN,b1]
theorem l25 (h3:AH e0 3= .ref h.length 0) (h6:AH e0 6= .ref (h.length+3) 0) (h7:AH e0 7= .ref (h.length+4) 0) (hx:h[x]?=some (CM ps bs)):∀(ns:List F),
  RunY Tryz.prog GLx (h.length+6) (ns.map F.V) (X25 h x A B C e0 0 .ready) (ns.all (okC ps.length)) (if ns.all (okC ps.length) then X25 h x A B C e0 0 .ready else X25 h x A B C e0 7 (.done none)):=by
 intro ns;induction ns with
 |nil=>exact⟨rfl,rfl⟩
 |cons n ns ih=>
  have hy:=y25 h x A B C e0 h3 h6 h7 hx n;refine⟨okC ps.length n,_,?_,hy,?_⟩
  ·split<;>simp[X25]
  ·cases hf:okC ps.length n with
   |true=>
    simp only[if_true,AVl,hf,AUh];exact ih
   |false=>simp[hf]
end
def OX (nc:Int) (f:F) (t:Th):Int:=if BM f≠0 then BM f else if thE t≠0 then thE t else if f.nodes.all (okC nc)&&t.kinds nc then 0 else 7
theorem p25 {ps:List V} {bs:List Bool} (hps:ps.length≤64) (hbs:bs.length=4096) (f:F) (hf:f.ok) (t:Th) (ht:t.ok) (h:List Row) (x:Nat) (hx:h[x]?=some (CM ps bs)) (hl:Low h):
  FX 25 [.ref x 0,.v f.V,.v t.V] h [.v (.bool (decide (OX ps.length f t=0)&&f.hold (isT ps.length bs) t)),.v (.int .i64 (OX ps.length f t))] h:=by
 refine Ai k25 rfl (AT6 _) hl (by simp[D.lt]) ?_;obtain⟨E,hE⟩:∃E,OX ps.length f t=E:=⟨_,rfl⟩;have hlow:Low (h++[.cells [.ref x 0],.cells f.cells,.cells t.cells,.cells [.v (.bool false)],.cells [.v (.int .i64 0)]]):=hl.apps (by
  intro row hrow;have:=CE hx;simp only[AT7,AUE,or_false]at hrow;rcases hrow with rfl|rfl|rfl|rfl|rfl
  ·simp[Row.low,D.lts,D.lt];omega
  ·exact LX _ f
  ·exact GA _ t
  ·simp[Row.low,D.lts,D.lt]
  ·simp[Row.low,D.lts,D.lt])
 have q1:=p66 f hf;have q2:=p67 t ht;have q3:=p65 [BM f,thE t] (by simp);have q4:=p68 f;have q5:=λZ=>p69 ps bs (h++Z) x (AO Z hx);have q6:=p70 ps.length t ht;have q7:=λ(h1:BM f=0)=>p71 hps hbs f hf (AFD h1) t ht;rw[hE];unfold OX at hE;generalize BM f=e1 at*;generalize thE t=e2 at*;obtain⟨B,hB⟩:∃B,f.hold (isT ps.length bs) t=B:=⟨_,rfl⟩;rw[hB]at q7 ⊢;generalize t.kinds ps.length=K at*;have hrun:=λe0 a1 a2 a3=>l25 (ps:=ps) (bs:=bs) h x (.cells f.cells) (.cells t.cells) (.cells f.cells) e0 a1 a2 a3 hx f.nodes;generalize f.nodes.all (okC ps.length)=O at*;obtain⟨op,n,ins,kids⟩:=f;obtain⟨cs,vs,pa⟩:=t;simp only[F.cells,F.op,F.n,F.ins,F.kids,F.V_eq,Th.cells,Th.cs,Th.vs,Th.ps,Th.V_eq]at*;simp[AL]at q1 q2 q3 q4;simp only[c25,AB,AA,AG,AE,ACl,ACk,AS];simp[AL,AD];simp only[AW,ACj];simp;refine⟨_,_,⟨rfl,rfl⟩,_,q1,?_⟩;simp;refine⟨_,_,⟨rfl,rfl⟩,_,q2,?_⟩;simp;refine⟨_,_,⟨rfl,rfl⟩,_,q3,?_⟩;generalize hfi:(List.find? (λx=>x != 0) [e1,e2]).getD 0=fe;have hfe:fe=if e1≠0 then e1 else e2:=by
  subst hfi;by_cases c1:e1=0
  ·by_cases c2:e2=0
   ·simp[c1,c2]
   ·simp[c1,c2]
  ·simp[c1]
 clear hfi q3;simp[ACi];by_cases b1:fe=0
 ·have c1:e1=0:=by
   by_cases c:e1=0
   ·exact c
   ·rw[if_pos c]at hfe;omega
  have c2:e2=0:=by rw[c1]at hfe;simpa[b1]using hfe.symm
  simp[c1,c2]at hE
  replace q7:=q7 c1
  simp[b1,AD,AA,ACg];refine⟨_,_,q4 _,?_⟩;simp;have hr:=hrun (cpE [(3,.ref h.length 0),(4,.ref (h.length+1) 0),(5,.ref (h.length+2) 0),(6,.ref (h.length+3) 0),(7,.ref (h.length+4) 0),(22,.func 147 [.ref (h.length+5) 0])]) rfl rfl rfl;obtain⟨J,hp⟩:=up _ hf _ (h.length+5) _ _ _ hr (by simp[X25,F.cells,F.op,F.n,F.ins,F.kids])
  replace hp:=hp.kill (h.length+7)
  have hk:=λ(v:Int) (t:Tag) A B C e0=>Xc (X25 h x A B C e0 v t) J;simp only[show ∀v t A B C e0,(X25 h x A B C e0 v t).length=h.length+7 from λv t A B C e0=>by simp[X25]]at hk;generalize J.length=m at hk;cases O with
  |false=>
   simp only[AUF,if_false,hk]at hp;refine DZ (h.length+6) (by simp) 147 [.ref (h.length+5) 0] [] _ _ (.done none) rfl ?_ hp ?_ ?_
   ·simp[X25,AL]
   ·simp[X25]
   ·have hE7:E=7:=by simpa using hE.symm
    simp[Bo,X25,AF,RD,D.one?,D.v?,hE7]
  |true=>
   simp only[if_true,hk]at hp;refine DZ (h.length+6) (by simp) 147 [.ref (h.length+5) 0] [] _ _ .ready rfl ?_ hp ?_ ?_
   ·simp[X25,AL]
   ·simp[X25]
   ·simp at hE;simp[Bo,X25];have hL:Low (h++Row.cells [D.ref x 0]::Row.cells [D.v (V.int IntKind.i64 op),D.v (V.int IntKind.i64 n),D.v (V.list (List.map Ivl.V ins)),D.v (V.list (List.map F.V kids))]::
      Row.cells [D.v (AL IntKind.i64 cs),D.v (V.list (List.map Val.V vs)),D.v (V.list (List.map Th.V pa))]::Row.cells [D.v (V.bool false)]::Row.cells [D.v (V.int IntKind.i64 0)]::
      Row.cells [D.v (V.int IntKind.i64 op),D.v (V.int IntKind.i64 n),D.v (V.list (List.map Ivl.V ins)),D.v (V.list (List.map F.V kids))]::Row.dead::List.replicate m Row.dead):=by
     have h1:=hlow.app (row:=Row.cells [D.v (V.int IntKind.i64 op),D.v (V.int IntKind.i64 n),D.v (V.list (List.map Ivl.V ins)),D.v (V.list (List.map F.V kids))]) (by simp[Row.low,D.lts,D.lt]);have h2:=XX (h1.app (row:= .dead) rfl) m;simpa using h2
    replace q7:=q7 _ x (AO _ hx) hL
    rw[BO];refine BG _ (λs hs=>⟨s,.inl rfl,hs⟩) ?_;simp only[iv];simp;have hfin:E=(if K then 0 else 7):=hE.symm
    constructor
    ·refine⟨_,_,q5 _,?_⟩;simp;refine⟨_,_,⟨rfl,rfl⟩,_,q6,?_⟩;cases K with
     |false=>simp at hfin;simp[RC,AN,AF,RD,D.one?,D.v?,hfin]
     |true=>
      simp at hfin;simp[AD,Q9];refine⟨_,_,q7,?_⟩;simp[AN,AF,RD,D.one?,D.v?,hfin]
    ·refine⟨_,_,q5 _,?_⟩;simp;refine⟨_,_,⟨rfl,rfl⟩,_,q6,?_⟩;cases K with
     |false=>simp at hfin;simp[RC,AN,AF,RD,D.one?,D.v?,hfin]
     |true=>
      simp at hfin;simp[AD,Q9];refine⟨_,_,q7,?_⟩;simp[AN,AF,RD,D.one?,D.v?,hfin]
 ·have hEf:E=fe:=by
   rw[hfe,←hE];by_cases c:e1=0
   ·have c2:e2≠0:=by rw[c]at hfe;simp at hfe;omega
    simp[c,c2]
   ·simp[c]
  simp[b1,AB,AA,ACh,AN,AF,RD,hEf,D.one?,D.v?]
theorem p63 (l:List Clm) (hl:∀c∈l,c.ok) (hn:l.length≤2^40) (hz:CR l=0) (i:Nat) (hi:i <l.length):PX 63 [.list (l.map Clm.V),.int .i64 i] [.int .i64 0]:=by
 refine AK k63 rfl ?_;have q:=(AEh l hl hn).fsp;rw[hz]at q;have h1:¬(i:Int) <0:=by omega
 have h2:¬((l.length:Int)≤i):=by omega
 have h3:¬(l.length≤i):=by omega
 simp only[c63,AB,AA,AE,AAq,AAp,AY];simp at q ⊢;refine⟨_,_,q _,?_⟩;simp[AD,AA,AAo,AAn,h1,h2,h3,AAm,AF,AMD]
def Bb (f:F):List F:=if f.op=4 then f.kids else [f]
theorem AJr (f:F):PX 141 [f.V] [.list ((Bb f).map F.V)]:=by
 refine AK ATQ rfl ?_;unfold Bb;obtain⟨op,n,ins,kids⟩:=f;by_cases h:op=4<;>simp[AOq,awp,rJ,rI,rH,rG,ADj,AY,F.V_eq,h,F.op,F.kids]
mutual
def F.tops:F→List F| .mk op n ins kids=>if op=5 then F.topss kids else [.mk op n ins kids]
def F.topss:List F→List F|[]=>[]|k::ks=>k.tops++F.topss ks
end
theorem Nw:∀l,F.topss l=l.flatMap F.tops
 |[]=>rfl
 |k::ks=>by simp[F.topss,Nw ks]
theorem F.tops_eq (op n:Int) (ins:List Ivl) (kids:List F):(F.mk op n ins kids).tops=if op=5 then kids.flatMap F.tops else [.mk op n ins kids]:=by
 rw[F.tops,Nw]
theorem AQ3 (f:F) (h:List Row):FX 139 [.v f.V] h [.func 242 [.ref h.length 0]] (h++[.cells f.cells]):=by
 refine AV ATR rfl ?_;obtain⟨op,n,ins,kids⟩:=f;simp[AOv,awp,rS,rR,ADo,AS,F.V_eq,F.cells,F.op,F.n,F.ins,F.kids,D.vs?,D.v?]
theorem AP9 (x:F) (c:Nat) (h:List Row) (a:Nat) (hc:h[c]?=some (.cells [.func 243 [.ref a 0,.ref c 0]])) (b:Bool) (h':List Row)
  (hp:FX 243 [.v x.V,.ref a 0,.ref c 0] (h++[.cells x.cells]) [.v (.bool b)] h'):FX 244 [.v x.V,.ref c 0] h [.v (.bool (!b))] h':=by
 refine AV ASh rfl ?_;have hc2:=AO [.cells x.cells] hc;obtain⟨xo,xn,xi,xk⟩:=x;simp only[F.cells,F.op,F.n,F.ins,F.kids,F.V_eq]at*;simp only[ANd,AB,AA,AG,AE,jy,jx,AS];simp[hc2,D.vs?,D.v?];refine⟨_,_,hp,?_⟩;simp[AF,ACw]
theorem ARW (r:Nat) (a c:Nat) (kids:List F) (hk:∀k∈kids,∀X b X' J i j,a=X.length+i→c=X.length+j→RunY Tryz.prog GLx r (k.tops.map F.V) X b X'→J[i]?=some (.cells [.yld r])→J[j]?=some (.cells [.func 243 [.ref a 0,.ref c 0]])→
   ∃J',FX 243 [.v k.V,.ref a 0,.ref c 0] (X++J) [.v (.bool b)] (X'++(J++J'))):
  ∀(X:List Row) (b:Bool) (X':List Row) (J:List Row) (i j:Nat),a=X.length+i→c=X.length+j→RunY Tryz.prog GLx r ((kids.flatMap F.tops).map F.V) X b X'→J[i]?=some (.cells [.yld r])→J[j]?=some (.cells [.func 243 [.ref a 0,.ref c 0]])→
   ∃J' q,IdxR Tryz.prog GLx 244 [.ref c 0] (kids.map F.V) (X++J) q (X'++(J++J'))∧q.isSome= !b:=by
 induction kids with
 |nil=>
  rintro X b X' J i j ha hc ⟨rfl,rfl⟩ hi hj;exact⟨[],none,⟨rfl,by simp⟩,rfl⟩
 |cons k ks ih=>
  intro X b X' J i j ha hc hr hi hj;rw[AUN,AUZ]at hr;obtain⟨b1,X1,h1,h2⟩:=hr.app;have hl:=h1.len;obtain⟨J1,hp⟩:=hk k (by simp) X b1 X1 (J++[.cells k.cells]) i j ha hc h1 (AO _ hi) (AO _ hj);have hcc:(X++J)[c]?=some (.cells [.func 243 [.ref a 0,.ref c 0]]):=by rw[At X J c j hc];exact hj
  rw[←AUB]at hp;have hq:=AP9 k c (X++J) a hcc b1 _ hp;cases b1 with
  |true=>
   simp only[if_true]at h2;obtain⟨J2,q,h3,h4⟩:=ih (λx hx=>hk x (by simp[hx])) X1 b X' (J++[.cells k.cells]++J1) i j (by rw[hl];exact ha) (by rw[hl];exact hc) h2 (AO _ (AO _ hi)) (AO _ (AO _ hj));refine⟨[.cells k.cells]++J1++J2,q.map (· +1),⟨false,_,hq,?_⟩,by cases q<;>simpa using h4⟩
   simp only[AUF,if_false];refine⟨q,?_,rfl⟩;simpa[AUB]using h3
  |false=>
   simp only[AUF,if_false]at h2;obtain⟨rfl,rfl⟩:=h2;refine⟨[.cells k.cells]++J1,some 0,⟨true,_,hq,?_⟩,rfl⟩;simp[AUB]
theorem AQA (r:Nat) (a c:Nat):∀f:F,f.ok→∀X b X' J i j,a=X.length+i→c=X.length+j→RunY Tryz.prog GLx r (f.tops.map F.V) X b X'→J[i]?=some (.cells [.yld r])→J[j]?=some (.cells [.func 243 [.ref a 0,.ref c 0]])→
   ∃J',FX 243 [.v f.V,.ref a 0,.ref c 0] (X++J) [.v (.bool b)] (X'++(J++J')):=by
 refine F.ind λop n ins kids ih hok=>?_;intro X b X' J i j ha hc hr hi hj;have hsz:=hok.2;rw[F.size_eq]at hsz;have hkl:=F.kids_len kids;rw[F.tops_eq]at hr;have ga:(X++(J++[.cells (F.mk op n ins kids).cells]))[a]?=some (.cells [.yld r]):=by rw[At X _ a i ha];exact AO _ hi
 have gf:(X++(J++[.cells (F.mk op n ins kids).cells]))[X.length+J.length]?=some (.cells (F.mk op n ins kids).cells):=by rw[At X _ _ J.length rfl];simp
 have hkids:∀x∈kids.map F.V,∃cs,x=V.agg cs∧cs.length=4:=by
  intro x hx;obtain⟨k,_,rfl⟩:=AT9.1 hx;obtain⟨ko,kn,ki,kk⟩:=k;exact⟨_,F.V_eq ..,rfl⟩
 by_cases h5:op=5
 ·rw[if_pos h5]at hr;obtain⟨J3,q,hidx,hq⟩:=ARW r a c kids (λk hk=>ih k hk (F.ok_kid hok hk)) X b X' (J++[.cells (F.mk op n ins kids).cells]) i j ha hc hr (AO _ hi) (AO _ hj);have hp:=uo (.func 244 [.ref c 0]) 244 [.ref c 0] (FV.r 244 c 0 []) (kids.map F.V) (by simp;omega) hkids hidx;refine⟨[.cells (F.mk op n ins kids).cells]++J3,AV AKq rfl ?_⟩;simp only[F.cells,F.op,F.n,F.ins,F.kids,F.V_eq]at*;simp only[AHD,AB,AA,AG,AE,RQ,RP,AS];simp[h5,AD];simp[h5]at gf;simp[gf,D.vs?,D.v?,AD,AA,jz];simp[h5]at hp;rw[hq]at hp;refine⟨_,_,hp,?_⟩;simp[AF,kA]
 ·rw[if_neg h5]at hr;obtain⟨b1,X1,hl,hy,hr2⟩:=hr;obtain⟨J2,hy2⟩:=hy (J++[.cells (F.mk op n ins kids).cells]);have hbb:b=b1∧X'=X1:=by
   cases b1 with
   |true=>exact hr2
   |false=>exact hr2
  obtain⟨rfl,rfl⟩:=hbb;refine⟨[.cells (F.mk op n ins kids).cells]++J2,AV AKq rfl ?_⟩;simp only[F.cells,F.op,F.n,F.ins,F.kids,F.V_eq]at*;simp only[AHD,AB,AA,AG,AE,RQ,RP,AS];simp[-Bool.exists_bool];simp[gf,h5,AB,AA,j9,-Bool.exists_bool];simp[ga,gf,-Bool.exists_bool];refine⟨_,_,hy2,?_⟩;simp[AF,kA]
theorem AQB (f:F) (hok:f.ok) (r q:Nat) (X:List Row) (b:Bool) (X':List Row) (hr:RunY Tryz.prog GLx r (f.tops.map F.V) X b X') (hq:X[q]?=some (.cells f.cells)):
  ∃J,FX 242 [.yld r,.ref q 0] X [] (X'++J):=by
 obtain⟨J',hp⟩:=AQA r X.length (X.length+1) f hok X b X' [.cells [.yld r],.cells [.func 243 [.ref X.length 0,.ref (X.length+1) 0]]] 0 1 rfl rfl hr rfl rfl;refine⟨[.cells [.yld r],.cells [.func 243 [.ref X.length 0,.ref (X.length+1) 0]]]++J',AV ASi rfl ?_⟩;obtain⟨op,n,ins,kids⟩:=f;have hq2:=AO [.cells [.yld r],.cells [.func 243 [.ref X.length 0,.ref (X.length+1) 0]]] hq;simp only[F.cells,F.op,F.n,F.ins,F.kids,F.V_eq]at*;simp only[ANf,AB,AA,AG,AE,kE,kD,kC,kB,AS];simp[AN,D.vs?,D.v?]
 try simp at hq2
 simp[hq2];exact⟨⟨_,hp⟩,rfl⟩
theorem APR (l:List Int) (n:Int) (hn:l.length≤2^40):PX 337 [AL .i64 l,.int .i64 n] [.int .i64 (Dj (l.findIdx? λx=>n==x))]:=by
 refine AK ARt rfl ?_;obtain⟨R,hR⟩:∃R,Dj (l.findIdx? λx=>n==x)=R:=⟨_,rfl⟩;rw[hR];simp only[AMu,AB,AA,AG,cw,cv,AY];simp[AL];refine BQ l.length (λk=>⟨[(0,.v (AL .i64 l)),(1,.v (.int .i64 n)),(7,.v (.int .i64 l.length)),(8,.v (.int .i64 k))],[]⟩) (λk=>Dj (((l.drop k).findIdx? λx=>n==x).map (· +k))=R) (by simp[AL]) (by simpa using hR) ?_;intro k hk hI;simp only[cz,AB,AA,AG,AE,cu];simp[AL];by_cases h1:k <l.length
 ·obtain⟨x,hx⟩:∃x,l[k]?=some x:=⟨_,AT2 h1⟩;have hw:IntKind.i64.wrap ((k:Int)+1)=k+1:=AJ;rw[Er hx,AUy]at hI;rw[if_pos (by omega),AD];simp only[AA,ct,cr];simp[hx];by_cases b1:n=x
  ·subst b1;simp[Dj]at hI;simp[AB,AA,cq,AF,c8,hI]
  ·have b2:(n==x)=false:=by simp[b1]
   rw[b2]at hI;have hI':Dj (((l.drop (k+1)).findIdx? λx=>n==x).map (· +(k+1)))=R:=by
    rw[←hI];cases (l.drop (k+1)).findIdx? λx=>n==x with
    |none=>rfl
    |some j=>simp[Dj];omega
   simp[b1,AD,AA,co,hw,h1];exact hI'
 ·have hk2:k=l.length:=by omega
  subst hk2;simp[Dj]at hI;rw[if_neg (by omega),AM];simp[AA,AF,AB,cn,c8,hI]
theorem APZ (l:List Int) (n:Int) (hn:l.length≤2^40):PX 316 [AL .i64 l,.int .i64 n] [.bool (l.any λx=>n==x)]:=by
 refine AK AR2 rfl ?_;have q:=(APR l n hn).fsp;have hge:=TT (l.findIdx? λx=>n==x);rw[CU]at hge;generalize Dj (l.findIdx? λx=>n==x)=I at*;generalize (l.any λx=>n==x)=B at*;simp only[AM2,AB,AA,eI,eH,AY];simp[AL]at q ⊢;refine⟨_,_,q _,?_⟩;simp[AF,ACM,CB];by_cases h0:0≤I
 ·simp[h0,hge.1 h0]
 ·cases B with
  |false=>simp[h0]
  |true=>exact absurd (hge.2 rfl) h0
def E3 (r:Rgt):List Int:=if r.force=0 then ((List.range r.claims.length).map λ(i:Nat)=>(i:Int)).filter λi=> !(r.bad.any λx=>i==x) else []
theorem APv (r:Rgt) (h1:r.claims.length≤2^30) (h2:r.bad.length≤2^40):PX 273 [r.V] [AL .i64 (E3 r)]:=by
 refine AK AST rfl ?_;unfold E3;obtain⟨file,state,force,claims,dates,bad,owners,lics⟩:=r;simp only at h1 h2 ⊢;simp only[ANQ,AB,AA,AG,AE,ig,ie,ic,AY];simp[Rgt.V,Rgt.cs,AL];by_cases hf:force=0
 ·subst hf;obtain⟨P,hP⟩:∃P:Int→Bool,(λi=> !(bad.any λx=>i==x))=P:=⟨_,rfl⟩;simp[AD,AA,ia];refine Ad claims.length (λk=>⟨[(1,.ref 0 0),(3,.own 3 1 ((((List.range k).map λ(i:Nat)=>(i:Int)).filter λi=> !(bad.any λx=>i==x)).map (.int .i64))),(11,.v (.int .i64 claims.length)),(12,.v (.int .i64 k))],
   [.cells ((Rgt.cs ⟨file,state,0,claims,dates,bad,owners,lics⟩).map .v)]⟩) (by simp[Rgt.cs,AL]) ?_
  intro k hk;simp only[ii,AB,AA,AG,AE,iZ];simp[Rgt.cs,AL];by_cases hlt:k <claims.length
  ·have hw:IntKind.i64.wrap ((k:Int)+1)=k+1:=AJ;have q:=(APZ bad k h2).fsp;rw[if_pos (by omega),AD];have hlen:(((List.range k).map λ(i:Nat)=>(i:Int)).filter λi=> !(bad.any λx=>i==x)).length≤k:=by
    have:=AUn (λi=> !(bad.any λx=>i==x)) ((List.range k).map λ(i:Nat)=>(i:Int));simpa using this
   have hs:(((List.range (k+1)).map λ(i:Nat)=>(i:Int)).filter λi=> !(bad.any λx=>i==x))=(((List.range k).map λ(i:Nat)=>(i:Int)).filter λi=> !(bad.any λx=>i==x))++(if (bad.any λx=>(k:Int)==x) then [] else [(k:Int)]):=by
    rw[AU0,AUZ,AVN]
    congr 1
    simp only[AUD,AVe,AVi,AWF];cases (bad.any λx=>(k:Int)==x)<;>rfl
   rw[hs];generalize (((List.range k).map λ(i:Nat)=>(i:Int)).filter λi=> !(bad.any λx=>i==x))=L at*;generalize (bad.any λx=>(k:Int)==x)=B at*;have hroom:Ae (L.length+1) 8=true:=by simp[Ae];omega
   simp[AL]at q;simp only[AA,iY,iX];simp;refine⟨_,_,q _,?_⟩;cases B with
   |true=>simp[AD,Q8,hw,hlt]
   |false=>simp[AA,iW,hroom,Q8,hw,hlt]
  ·have hk2:k=claims.length:=by omega
   subst hk2;rw[if_neg (by omega),AM];simp[AA,AF,AB,Uc,ij]
 ·simp[hf,AB,AA,ib,AF,ij]
def Dl:Nat→List V→List (V×V)
 |_,[]=>[]
 |k,v::vs=>(.int .i64 k,v)::Dl (k+1) vs
def Dv (vs:List V):Row:= .map (Dl 0 vs) (List.range vs.length) vs.length
theorem Ok (v:V):∀(vs:List V) (k:Nat),Dl k (vs++[v])=Dl k vs++[(.int .i64 ((k+vs.length:Nat):Int),v)]
 |[],k=>rfl
 |x::vs,k=>by
  simp only[AUx,Dl,Ok v vs (k+1),AUO];rw[show k+1+vs.length=k+(vs.length+1) by omega]
theorem GJ:∀(vs:List V) (k i:Nat) (v:V),vs[i]?=some v→(Dl k vs)[i]?=some (.int .i64 ((k+i:Nat):Int),v)
 |x::vs,k,0,v,h=>by
  simp at h;subst h;rfl
 |x::vs,k,i+1,v,h=>by
  simp only[Dl,AVH];rw[GJ vs (k+1) i v (by simpa using h),show k+1+i=k+(i+1) by omega]
theorem HF (st:Bool) (a:Int):∀(vs:List V) (k:Nat),CQ false [0] (.int .i64 a) (Dl k vs)=some (if (k:Int)≤a∧a <k+vs.length then some (a-k).toNat else none)
 |[],k=>by
  rw[if_neg (by simp)];rfl
 |x::vs,k=>by
  have hk:BL false [0] (.int .i64 k)=true:=by simp[BL,V.eqL,V.eq1,V.cells]
  simp only[Dl,CQ,hk,if_true,V.cells,V.eqL,V.eq1,AVh,HF st a vs (k+1),AUO];by_cases h:a=k
  ·subst h;simp;omega
  ·have h2:(a==(k:Int))=false:=by simp[h]
   simp only[h2];by_cases h3:((k+1:Nat):Int)≤a∧a <((k+1:Nat):Int)+vs.length
   ·rw[if_pos h3,if_pos (by omega)];simp;omega
   ·rw[if_neg h3,if_neg (by omega)];rfl
theorem OK (vs:List V) (v:V):Row.map (Dl 0 vs++[(.int .i64 (vs.length:Nat),v)]) (List.range vs.length++[vs.length]) (vs.length+1)=Dv (vs++[v]):=by
 unfold Dv;rw[Ok,AT5,AWK,AU0,AU9]
def DI (acc:List F) (c:Clm):F:=if c.refs=[] then c.body else .mk 4 0 [] [c.body,.mk 5 0 [] (c.refs.map λr=>(acc[r.toNat]?).getD c.body)]
def A7 (l:List Clm):List F:=l.foldl (λacc c=>acc++[DI acc c]) []
theorem DH (l:List Clm):(A7 l).length=l.length:=by
 have:∀(l:List Clm) (acc:List F),(l.foldl (λacc c=>acc++[DI acc c]) acc).length=acc.length+l.length:=by
  intro l;induction l with
  |nil=>simp
  |cons c l ih=>intro acc;rw[AVQ,ih];simp;omega
 have h:=this l [];rw[AVA,AU9]at h;exact h
theorem Pj (l:List Clm) (c:Clm):A7 (l++[c])=A7 l++[DI (A7 l) c]:=by
 unfold A7;rw[AVf];rfl
theorem HG (l:List Clm) {k:Nat} {c:Clm} (h:l[k]?=some c):A7 (l.take (k+1))=A7 (l.take k)++[DI (A7 (l.take k)) c]:=by
 rw[AUP,h];exact Pj _ _
theorem EJ (l:List Clm):∀k,k≤l.length→A7 (l.take k)=(A7 l).take k:=by
 have:∀(l m:List Clm),(A7 (l++m)).take l.length=A7 l:=by
  intro l m;unfold A7;rw[AVf];have:∀(m:List Clm) (acc:List F),∃t,m.foldl (λacc c=>acc++[DI acc c]) acc=acc++t:=by
   intro m;induction m with
   |nil=>intro acc;exact⟨[],by simp⟩
   |cons c m ih=>
    intro acc;obtain⟨t,ht⟩:=ih (acc++[DI acc c]);exact⟨[DI acc c]++t,by rw[AVQ,ht];simp⟩
  obtain⟨t,ht⟩:=this m (l.foldl (λacc c=>acc++[DI acc c]) []);rw[ht];have:=DH l;unfold A7 at this;rw[AV3 (by omega),AUc (by omega)]
 intro k hk;have h:=this (l.take k) (l.drop k);rw[AUr]at h;rw[←h,AUT,AVG hk]
def CJ (l:List Clm) (i:Int):F:=((A7 l)[i.toNat]?).getD (.mk 0 0 [] [])
section
variable {P:Program} {GL:AX}
theorem Inv.frzRow {g:Gh} {w:World} {μ:List Nat} {t:Nat→D} {u:Nat→Value} {h:List Row} {O:Nat→Prop} (hi:Inv g w μ t u h O) {r b n sz:Nat} {ds:List D} {xs:List V}
  (hr:h[r]?=some (.cells ds)) (hb:μ[r]?=some b) (hxl:xs.length=n) (hxc:∀x∈xs,x.cells.length=sz) (hvs:D.vs? (ds.take (n*sz))=some (xs.flatMap V.cells)):
  ∃g',Inv g' w μ t u (h.set r .dead) O∧Chg (λz=>z=b) g w g' w∧∀cap,n≤cap→RepV g' (.list xs) (.slice (some ⟨b,0,none⟩) n cap):=by
 obtain⟨vs,T,hheap,hall,hone,hgn⟩:=hi.rows r _ b hr hb;have hcl:=PT hvs (hall.take (n*sz));obtain⟨ws,w1,w2,w3⟩:=PU hxc hcl (λu hu=>hone u (AUi hu));have hwl:ws.length=n:=by rw[w1.1,hxl]
 let g':=g.put b 0 (vs.take (n*sz))
 have hgle:g.le g':=Gh.le_put _ λo _ _=>hgn o;have hchg:Chg (λz=>z=b) g w g' w:=⟨hgle,AT6 _,λ_ _ _=>rfl,λb' _ hb' o=>Gh.put_other hb' o,rfl,rfl⟩;have hag:∀b' o v,g'.m b' o=some v→w.cell? ⟨b',o,none⟩=some v:=by
  intro b' o v hv;by_cases hb':b'=b
  ·subst hb';rw[cell_of_row w b' o _ _ _ hheap];simp only[g',Gh.put]at hv;split at hv
   ·rename_i hc;simp only[AVn]at hv;have h2:=hc.2.2;rw[AUV]at hv;split at hv
    ·simpa using hv
    ·cases hv
   ·rw[hgn]at hv;cases hv
  ·simp only[g',Gh.put_other hb']at hv;exact hi.agree b' o v hv
 have hinv:=hi.setAny hr hb .dead hchg hag (BC hheap) (λk ds d h=>by cases h);have hsz:∀i,i <n→((λi=>ws.getD i (.bool false)) i).cells.size=sz:=λi hi=>by
  have:i <ws.length:=by omega
  simp only[List.getD,AT2 this,AUH];exact w3 _ (AUs this)
 refine⟨g',hinv,hchg,λcap hcap=>?_⟩;rw[←hxl];refine RepV.list xs ⟨b,0,none⟩ cap sz (λi=>ws.getD i (.bool false)) rfl (by omega) (λi x hi=>?_) (λi hi=>⟨hsz i (by omega),λj v hj=>?_⟩)
 ·obtain⟨u,hu,hru⟩:=w1.get hi;simp only[List.getD,hu,AUH];exact hru.mono hgle
 ·have hjs:j <sz:=by have:=(AT4.1 hj).1;have:=hsz i (by omega);simp at *;omega
  have:=Gh.put_at g b 0 (vs.take (n*sz)) (i*sz+j) v (by
   rw[w2,MN,hwl,DU hsz (by omega) hjs];exact hj)
  simpa using this
theorem FSp.frz {f:Nat} {args:List D} {h h':List Row} {ds cs:List D} {i r n sz:Nat} {xs:List V} (hf:FSp P GL f args h [.agg ds] h') (hi:ds[i]?=some (.sref r n)) (hr:h'[r]?=some (.cells cs))
  (hx:xs.length=n) (hxc:∀x∈xs,x.cells.length=sz) (hvs:D.vs? (cs.take (n*sz))=some (xs.flatMap V.cells)):FSp P GL f args h [.agg (ds.set i (.v (.list xs)))] (h'.set r .dead):=by
 obtain⟨h1,h2⟩:=hf;refine⟨h1,λg w μ us O hinv hgl hall htame=>(h2 g w μ us O hinv hgl hall htame).mono ?_⟩;rintro e w' ⟨v,g',μ',rfl,hi',hch,hμ⟩;have hrep:RepD g' w' μ' (.agg ds) v:=hi'.rep 0;obtain⟨vs,rfl,ha,ho,hn⟩:=hrep;obtain⟨u,hu,hru⟩:=ha.get hi;obtain⟨b,cap,hb,rfl,hnc⟩:=hru;obtain⟨g'',hinv'',hchg,hrv⟩:=hi'.frzRow hr hb hx hxc hvs;refine⟨_,g'',μ',rfl,?_,hch.trans (hchg.mono λz (hz:z=b) ho=>hi'.mo b (AT3 hb) (hz▸ho)),hμ⟩;have hset:=hinv''.set (d:=0) (x:= .agg (ds.set i (.v (.list xs)))) (v:= .agg vs.toArray) ⟨vs,rfl,⟨by rw[AUt];exact ha.1,λj x v hj hv=>?_⟩,ho,λd hd v=>?_⟩ (λk=>by cases k<;>simp[Ab,AZ])
 ·refine Eq.mp ?_ hset
  congr 1
  ·funext k
   cases k<;>simp[at0,Ba]
  ·funext k
   cases k<;>simp[at0]
 ·rw[AUe]at hj;by_cases hji:i=j
  ·subst hji;rw[if_pos rfl]at hj;split at hj
   ·simp only[AT0]at hj;subst hj;rw[hu]at hv;simp only[AT0]at hv;subst hv;exact hrv cap hnc
   ·cases hj
  ·rw[if_neg hji]at hj;refine(ha.2 j x v hj hv).chg hchg (AT8 _) λb' hb'=>?_;rw[hn x (AT3 hj) v]at hb';cases hb'
 ·rcases AUv hd with h3|rfl
  ·exact hn d h3 v
  ·rfl
theorem FSp.aggV {f:Nat} {args:List D} {h h':List Row} {xs:List V} (hf:FSp P GL f args h [.agg (xs.map .v)] h'):FSp P GL f args h [.v (.agg xs)] h':=by
 obtain⟨h1,h2⟩:=hf;refine⟨h1,λg w μ us O hinv hgl hall htame=>(h2 g w μ us O hinv hgl hall htame).mono ?_⟩;rintro e w' ⟨v,g',μ',rfl,hi',hch,hμ⟩;have hrep:RepD g' w' μ' (.agg (xs.map .v)) v:=hi'.rep 0;obtain⟨vs,rfl,ha,ho,hn⟩:=hrep;refine⟨_,g',μ',rfl,?_,hch,hμ⟩;have hset:=hi'.set (d:=0) (x:= .v (.agg xs)) (v:= .agg vs.toArray) (.agg' ⟨by simpa using ha.1,λi x v hx hv=>ha.2 i (.v x) v (by simp[hx]) hv⟩ ho) (λk=>Bf _ _ _);refine Eq.mp ?_ hset
 congr 1
 ·funext k
  cases k<;>simp[at0,Ba]
 ·funext k
  cases k<;>simp[at0]
theorem FSp.trim {f:Nat} {args rets:List D} {h h' J:List Row} (hf:FSp P GL f args h rets (h'++J)) (hl:h.length≤h'.length) (hh:∀row∈h',Row.low h'.length row=true) (hr:∀d∈rets,D.lt h'.length d=true):FSp P GL f args h rets h':=by
 obtain⟨h1,h2⟩:=hf;refine⟨h1,λg w μ us O hinv hgl hall htame=>(h2 g w μ us O hinv hgl hall htame).mono ?_⟩;rintro e w' ⟨v,g',μ',rfl,hi',hch,hμ⟩;refine⟨v,g',μ'.take h'.length,rfl,hi'.low (XW (ON hr)) hh,hch,?_⟩;obtain⟨tl,rfl⟩:=hμ;rw[List.take_append,AUc (by rw[hinv.len];exact hl)];exact AUz _ _
theorem HE {f:Nat} {args rets:List V} (hf:FSp P GL f (args.map .v) [] (rets.map .v) []):PSp P GL f args rets:=by
 refine⟨hf.1,λg w us hag hgl hall=>?_⟩;have hinv:Inv g w [] I8 LF [] (λb=>b <w.heap.size):=by
  refine⟨hag,λb hb=>hb,λn=>by simp[I8,RepD,RepG,RepE],rfl,λr row b hr=>by simp at hr,λr r' b hr=>by simp at hr,λb hb=>by simp at hb,λp q b hp=>?_,λp b hp=>?_⟩
  ·exfalso;cases p with
   |tmp n k=>cases k<;>simp[blk,I8,Ab,AZ]at hp
   |cell r k=>simp[blk,Av,AZ]at hp
  ·exfalso;cases p with
   |tmp n k=>cases k<;>simp[blk,I8,Ab,AZ]at hp
   |cell r k=>simp[blk,Av,AZ]at hp
 refine(hf.2 g w [] us _ hinv hgl ⟨by simpa using hall.1,λi x v hx hv=>?_⟩ (λi d v hd hv=>?_)).mono ?_
 ·simp only[AUG,AUA]at hx;obtain⟨y,hy,rfl⟩:=hx;exact hall.2 i y v hy hv
 ·simp only[AUG,AUA]at hd;obtain⟨y,_,rfl⟩:=hd;simp[AZ]
 ·rintro e w' ⟨v,g',μ',rfl,hi,hc,hμ⟩;obtain rfl:μ'=[]:=AUg hi.len;have hr:=hi.rep 0;simp only[at0,if_true,Ig]at hr;exact⟨v,g',rfl,hr,⟨hc.le,hc.size,λb hb _=>hc.heap b hb (λh=>h hb),λb hb _=>hc.gh b hb (λh=>h hb),hc.os,hc.out⟩,hi.agree⟩
end
theorem AKO (X:List Row) (mx:Nat) (acc:List F) (hmx:X[mx]?=some (Dv (acc.map F.V))) (C Fr:Row) (refs:List Int) (hrefs:∀r∈refs,0≤r∧r <acc.length) (hn:refs.length≤8) (df:F) (v6 v19 v20 v21:V) (a7 a8:Nat) (Q:AExit→St→Prop)
  (hQ:∀e J,AH e 5= .mref mx→AH e 6= .v v6→AH e 7= .ref a7 0→AH e 8= .ref a8 0→AH e 9= .v (.bool true)→AH e 10= .ref (X.length+2) 0→AH e 19= .v v19→AH e 20= .v v20→AH e 21= .v v21→
   Q (.exit 2) ⟨e,X++(C::Fr:: .cells [.v (.int .i64 5),.v (.int .i64 0),.own 368 8 [],.own 84 4 ((refs.map λr=>(acc[r.toNat]?).getD df).map F.V)]::J)⟩):
  awp Tryz.prog GLx (.loop Mo) Q ⟨[(5,.mref mx),(6,.v v6),(7,.ref a7 0),(8,.ref a8 0),(9,.v (.bool true)),(10,.ref (X.length+2) 0),(19,.v v19),(20,.v v20),(21,.v v21),(34,.v (AL .i64 refs)),(35,.v (.int .i64 refs.length)),(36,.v (.int .i64 (0:Nat)))],
   X++[C,Fr,.cells [.v (.int .i64 5),.v (.int .i64 0),.own 368 8 [],.own 84 4 []]]⟩:=by
 refine Aa refs.length (λk s=>∃J,s=⟨[(5,.mref mx),(6,.v v6),(7,.ref a7 0),(8,.ref a8 0),(9,.v (.bool true)),(10,.ref (X.length+2) 0),(19,.v v19),(20,.v v20),(21,.v v21),(34,.v (AL .i64 refs)),(35,.v (.int .i64 refs.length)),(36,.v (.int .i64 k))],
   X++(C::Fr:: .cells [.v (.int .i64 5),.v (.int .i64 0),.own 368 8 [],.own 84 4 (((refs.take k).map λr=>(acc[r.toNat]?).getD df).map F.V)]::J)⟩) ⟨[],by simp⟩ ?_
 rintro k s hk ⟨J,rfl⟩;simp only[Mo,AB,AA,AG,AE,dz];simp[AL];by_cases hkl:k <refs.length
 ·obtain⟨r,hr⟩:∃r,refs[k]?=some r:=⟨_,AT2 hkl⟩;have hrr:=hrefs r (AT3 hr);obtain⟨g,hg⟩:∃g,acc[r.toNat]?=some g:=⟨_,AT2 (by omega)⟩;have Bc:∀Z,(X++Z)[mx]?=some (.map (Dl 0 (acc.map F.V)) (List.range (acc.map F.V).length) (acc.map F.V).length):=λZ=>AO Z hmx;have hf:CQ false [0] (.int .i64 r) (Dl 0 (acc.map F.V))=some (some r.toNat):=by
   rw[HF false,if_pos (by simp;omega)];simp
  have hgv:(Dl 0 (acc.map F.V))[r.toNat]?=some (.int .i64 r,g.V):=by
   have:=GJ (acc.map F.V) 0 r.toNat g.V (by simp[hg]);rw[this];simp;omega
  have w1:IntKind.i64.wrap ((k:Int)+1)=k+1:=AJ;have hroom:Ae (k+1) 64=true:=by simp[Ae];omega
  have hm:min k refs.length=k:=by omega
  have htk:(refs.map (F.V ∘ λr=>acc[r.toNat]?.getD df)).take (k+1)=(refs.map (F.V ∘ λr=>acc[r.toNat]?.getD df)).take k++[g.V]:=by rw[AUP,AUG,hr];simp[hg]
  rw[htk];obtain⟨go,gn,gi,gk⟩:=g;simp only[F.V_eq]at hgv;rw[if_pos (by omega),AD];simp only[AA,UU,UT];simp[hr,Bc,BL,V.eqL,V.eq1,hf,hgv,C5];simp[AN,US,hm,hroom,UR,w1,hkl,hg,F.V_eq]
 ·have hk2:k=refs.length:=by omega
  subst hk2;rw[if_neg (by omega),AM];change Q (.exit 2) _;rw[AUc (by simp),←AVM];refine hQ _ J ?_ ?_ ?_ ?_ ?_ ?_ ?_ ?_ ?_<;>rfl
structure MeanOK (T:List Clm):Prop where
 len:T.length≤32
 ok:∀c∈T,Clm.ok c
 refs:∀c∈T,c.refs.length≤8
 low:∀(k:Nat) (c:Clm),T[k]?=some c→∀r∈c.refs,0≤r∧r <k
 mean:∀f∈A7 T,f.ok∧BM f=0
def eG:AC:=(.seq (.reg Mm [5,6,8,19,20,21,67]) (.cond (.t 67 false) (.reg Ml [5,19,20,21]) .skip))
def ACL:AC:=(.seq (.seq (.reg Qn [5,6,7,8,9,19,20,21,31]) (.cond (.t 31 false) (.seq (.reg Qm [5,6,7,8,9,10,19,20,21]) (.seq (.seq (.reg Ql [5,6,7,8,9,10,19,20,21,34,35,36]) (.block 2 (.loop Mo))) (.reg Mn [5,6,8,9,19,20,21]))) .skip)) eG)
theorem Wk:Qr=(.seq (.reg Qq [5,19,20,21,22]) (.seq (.cond (.t 22 false) .skip (.exit 0)) (.seq (.block 1 (.seq (.reg Qp [5,6,7,19,20,21]) (.seq (.reg Qo [5,6,7,8,9,19,20,21]) ACL))) (.reg Jr [5,19,20,21])))):=rfl
theorem AKN (h:List Row) (acc:List F) (f:F) (hf:f.ok∧BM f=0) (k:Nat) (hk:acc.length=k) (v19 v20:V) (J:List Row) (a8:Nat) (Q:AExit→St→Prop)
  (hQ:∀e J,AH e 5= .mref h.length→AH e 19= .v v19→AH e 20= .v v20→AH e 21= .v (.int .i64 k)→Q .normal ⟨e,h++Dv ((acc++[f]).map F.V)::J⟩)
  (ds:List D) (hcp:ds.map D.copy=[.v (.int .i64 f.op),.v (.int .i64 f.n),.v (.list (f.ins.map Ivl.V)),.v (.list (f.kids.map F.V))]) (hJ:(h++Dv (acc.map F.V)::J)[a8]?=some (.cells ds)):
  ∀e,AH e 5= .mref h.length→AH e 6= .v (.int .i64 k)→AH e 8= .ref a8 0→AH e 9= .v (.bool true)→AH e 19= .v v19→AH e 20= .v v20→AH e 21= .v (.int .i64 k)→
   awp Tryz.prog GLx eG Q ⟨e,h++Dv (acc.map F.V)::J⟩:=by
 intro e f5 f6 f8 f9 f19 f20 f21;have q:=(p66 f hf.1).fsp;rw[hf.2]at q;have hmf:CQ false [0] (.int .i64 k) (Dl 0 (acc.map F.V))=some none:=by
  rw[HF false,if_neg (by simp;omega)]
 have hput:=OK (acc.map F.V) f.V;rw[←List.map_singleton (f:=F.V),←AUZ,AUM,hk]at hput;have hmr:Dv (acc.map F.V)= .map (Dl 0 (acc.map F.V)) (List.range k) k:=by unfold Dv;rw[AUM,hk]
 rw[hmr]at hJ ⊢;obtain⟨op,n,ins,kids⟩:=f;simp only[F.V_eq,F.op,F.n,F.ins,F.kids]at q hcp hput;have hdl:ds.length=4:=by have:=congrArg List.length hcp;simpa using this
 simp only[eG,AB,AA,AE,Mm];simp[f5,f6,f8,f9,f19,f20,f21,hJ,hcp,hdl]at q ⊢;refine⟨_,_,q _,?_⟩;simp[AA,Ml,f5,f6,f8,f9,f19,f20,f21,hJ,hcp,hdl,BL,V.eqL,V.eq1,hmf,C5];rw[hput];exact hQ _ _ rfl rfl rfl rfl
theorem ARU (T:List Clm) (hT:MeanOK T) (h:List Row) (Q:AExit→St→Prop)
  (hQ:∀e J,AH e 5= .mref h.length→Q (.exit 0) ⟨e,h++Dv ((A7 T).map F.V)::J⟩):
  awp Tryz.prog GLx (.loop Qr) Q ⟨[(5,.mref h.length),(19,.v (.list (T.map Clm.V))),(20,.v (.int .i64 T.length)),(21,.v (.int .i64 (0:Nat)))],h++[Dv []]⟩:=by
 refine Aa T.length (λk s=>∃J,s=⟨[(5,.mref h.length),(19,.v (.list (T.map Clm.V))),(20,.v (.int .i64 T.length)),(21,.v (.int .i64 k))],h++Dv ((A7 (T.take k)).map F.V)::J⟩) ⟨[],by simp[A7]⟩ ?_;rintro k s hk ⟨J,rfl⟩;rw[Wk];simp only[AB,AA,AG,AE,Qq];simp;by_cases hkl:k <T.length
 ·obtain⟨c,hc⟩:∃c,T[k]?=some c:=⟨_,AT2 hkl⟩;have hTl:=hT.len;have hcm:=AT3 hc;have w1:IntKind.i64.wrap ((k:Int)+1)=k+1:=AJ;have hmt:=HG T hc;have hal:(A7 (T.take k)).length=k:=by rw[DH,AUT];omega
  have hfk:DI (A7 (T.take k)) c∈A7 T:=by
   have h1:DI (A7 (T.take k)) c∈A7 (T.take (k+1)):=by rw[hmt];simp
   rw[EJ T (k+1) hkl]at h1;exact AUi h1
  have hf:=hT.mean _ hfk;have hlow:=hT.low k c hc;have hrf:=hT.refs c hcm;rw[hmt];generalize A7 (T.take k)=acc at*;obtain⟨refs,body⟩:=c;have hz:=λ(f:F) (hf:f.ok∧BM f=0) J a8 Q=>AKN h acc f hf k hal (.list (T.map Clm.V)) (.int .i64 T.length) J a8 Q;simp only at hlow hrf;rw[if_pos (by omega),AD];simp only[AA,Qp,Qo];simp[hc,Clm.V,AN];unfold ACL;simp only[AB,AA,AE,Qn];simp[AL];by_cases hr0:refs=[]
  ·subst hr0;have hme:DI acc ⟨[],body⟩=body:=by simp[DI]
   rw[hme]at hf ⊢;simp[AD];have Bc:∀(m a b:Row),(h++m::(J++[a,b]))[h.length+J.length+2]?=some b:=by
    intro m a b;have:=List.getElem?_concat_length (l:=h++m::(J++[a])) (a:=b);simp only[AUB,AUx,AT5,AUO,AVA,AWo,AWM,←Nat.add_assoc]at this;exact this
   refine hz body hf _ (h.length+J.length+2) _ ?_ [.v (.int .i64 body.op),.v (.int .i64 body.n),.v (.list (body.ins.map Ivl.V)),.v (.list (body.kids.map F.V))] rfl (Bc _ _ _) _ rfl rfl rfl rfl rfl rfl rfl;intro e J' g5 g19 g20 g21;simp[AA,Jr,g5,g19,g20,g21,w1,hkl]
  ·have h0:0 <refs.length:=by cases refs with|nil=>exact absurd rfl hr0|cons=>simp
   rw[if_pos h0];simp only[AA,Qm];simp;simp only[AA,AG,Ql];simp;have hgm:∀Z,(h++Dv (acc.map F.V)::J++Z)[h.length]?=some (Dv (acc.map F.V)):=λZ=>by simp
   have hi:=λC Fr v6 v19 v20 v21 a7 a8 Q=>AKO (h++Dv (acc.map F.V)::J) h.length acc (by simp) C Fr refs (λr hr=>by have:=hlow r hr;omega) hrf body v6 v19 v20 v21 a7 a8 Q;simp[AL]at hi;simp[AN];rw[show h.length+(J.length+2+1)=h.length+(J.length+1)+2 by omega];refine hi _ _ _ _ _ _ _ _ _ ?_;intro e J' g5 g6 g7 g8 g9 g10 g19 g20 g21;rw[show h.length+(J.length+1)+2=h.length+(J.length+2+1) by omega]at g10;simp only[AA,Mn];simp[g5,g6,g7,g8,g9,g10,g19,g20,g21];simp[AN,g5,g6,g7,g8,g9,g10,g19,g20,g21];have Bc:∀(m a b:Row) (Z:List Row),(h++m::(J++a::b::Z))[h.length+(J.length+1+1)]?=some b:=by
    intro m a b Z;simp
   refine hz (DI acc ⟨refs,body⟩) hf _ (h.length+(J.length+1+1)) _ ?_ _ ?_ (Bc _ _ _ _) _ rfl rfl rfl rfl rfl rfl rfl
   ·intro e J' g5 g19 g20 g21;simp[AA,Jr,g5,g19,g20,g21,w1,hkl]
   ·obtain⟨o,n,i,kk⟩:=body;simp[DI,hr0,F.op,F.n,F.ins,F.kids,F.V_eq]
 ·have hk2:k=T.length:=by omega
  subst hk2;rw[if_neg (by omega),AM];rw[AUb];exact hQ _ J rfl
theorem MeanOK.take {l:List Clm} (h:MeanOK l) (k:Nat) (hk:k≤l.length):MeanOK (l.take k) where
 len:=by have:=h.len;rw[AUT];omega
 ok:=λc hc=>h.ok c (AUi hc)
 refs:=λc hc=>h.refs c (AUi hc)
 low:=λj c hj=>h.low j c (by rw[AUV]at hj;split at hj;exact hj;cases hj)
 mean:=λf hf=>h.mean f (by rw[EJ l k hk]at hf;exact AUi hf)
theorem APY (l:List Clm) (hT:MeanOK l) (i:Nat) (hi:i <l.length) (h:List Row) (hl:Low h):
  FX 317 [.v (.list (l.map Clm.V)),.v (.int .i64 i)] h [.mref h.length] (h++[Dv ((A7 (l.take (i+1))).map F.V)]):=by
 refine Ai AR1 rfl (by simp) (hl.app rfl) (by simp[D.lt]) ?_;have hloop:=ARU (l.take (i+1)) (hT.take (i+1) hi) h;have hlen:=hT.len;have w1:IntKind.i64.wrap ((i:Int)+1)=i+1:=AJ;have e1:((i:Int)+1).toNat=i+1:=by omega
 have hho:=Xh l;have htl:(l.take (i+1)).length=i+1:=by rw[AUT];omega
 have hml:(List.take (i+1) (l.map Clm.V))=(l.take (i+1)).map Clm.V:=by rw[AUd]
 have hmm:Dv []= .map [] [] 0:=rfl;rw[hmm,htl]at hloop;simp only[AM1,AB,AA,AG,eF,eE,eD,AS];simp[w1,e1,hho,show 0≤(i:Int)+1 by omega,show i+1≤l.length from hi];simp at hloop;refine hloop _ ?_;intro e J g5;simp[UQ,g5,AF,ACK]
theorem APu (l:List Clm) (i:Nat) (hi:i <l.length) (hT:MeanOK l) (hz:CR l=0):PX 274 [.list (l.map Clm.V),.int .i64 i] [(CJ l i).V,.int .i64 0]:=by
 refine HE (args:=[_,_]) (rets:=[_,_]) ?_;refine Ai ASS rfl (AT6 _) (by intro row h;cases h) (by simp[D.lt]) ?_;have hlen:=hT.len;have q1:=(p63 l hT.ok (by omega) hz i hi).fsp;have q2:=APY l hT i hi [.cells [.v (.int .i64 0),.v (.int .i64 0),.own 368 8 [],.own 84 4 []]] (by intro row h;simp at h;subst h;rfl);have hin:¬(((i:Int) <0)∨(l.length:Int)≤i):=by omega
 obtain⟨f,hf⟩:∃f,(A7 l)[i]?=some f:=⟨_,AT2 (by rw[DH];exact hi)⟩;have hf2:(A7 (l.take (i+1)))[i]?=some f:=by
  rw[EJ l (i+1) hi,AUV,if_pos (by omega)];exact hf
 have hfa:CJ l i=f:=by unfold CJ;simp[hf]
 have hn:((A7 (l.take (i+1))).map F.V).length=i+1:=by rw[AUM,DH,AUT];omega
 have hm:CQ false [0] (.int .i64 i) (Dl 0 ((A7 (l.take (i+1))).map F.V))=some (some i):=by
  rw[HF false,if_pos (by rw[hn];omega)];simp
 have hg:(Dl 0 ((A7 (l.take (i+1))).map F.V))[i]?=some (.int .i64 i,f.V):=by
  have:=GJ ((A7 (l.take (i+1))).map F.V) 0 i f.V (by simp[hf2]);simpa using this
 rw[hfa];unfold Dv at q2;generalize (A7 (l.take (i+1))).map F.V=es at*;obtain⟨go,gn,gi,gk⟩:=f;simp only[F.V_eq]at*;simp only[ANP,AB,AA,AE,iV,AS];simp;simp only[AA,iU];simp;refine⟨_,_,q1 _,?_⟩;simp[iT,iS];simp at q2;refine⟨_,_,q2,?_⟩;simp[BL,V.eqL,V.eq1,hm,hg,C5,AN,AD,AA,iR,iQ,AF,ACd,D.one?]
def BA (p:Int×Int):V:= .agg [.int .i64 p.1,.int .i64 p.2]
def C9 (I:Int→Int→Bool) (t:Th) (r:Rgt):List (Int×Int):=((E3 r).filter λi=>(CJ r.claims i).hold I t).map λi=>(r.file,i)
def BU (I:Int→Int→Bool) (t:Th) (rs:List Rgt):List (Int×Int):=rs.flatMap (C9 I t)
theorem OO {r:Rgt} {i:Int} (h:i∈E3 r):0≤i∧i <r.claims.length:=by
 unfold E3 at h;split at h
 ·obtain⟨k,hk,rfl⟩:=AT9.1 (AVd.1 h).1;have:=AUR.1 hk;omega
 ·cases h
theorem Ik (r:Rgt):(E3 r).length≤r.claims.length:=by
 unfold E3;split
 ·have:=AUn (λi=> !(r.bad.any λx=>i==x)) ((List.range r.claims.length).map λ(i:Nat)=>(i:Int));simpa using this
 ·simp
structure Rgt.fine (nc:Int) (r:Rgt):Prop where
 bad:r.bad.length≤2^40
 mean:MeanOK r.claims
 z:CR r.claims=0
 cls:∀f∈A7 r.claims,f.nodes.all (okC nc)=true
theorem Rgt.fine.meanAt {nc:Int} {r:Rgt} (h:r.fine nc) {i:Int} (hi:0≤i∧i <r.claims.length):CJ r.claims i∈A7 r.claims:=by
 unfold Go.Va.CJ;have hl:=DH r.claims;have hx:(A7 r.claims)[i.toNat]?=some (A7 r.claims)[i.toNat]:=AT2 (by omega);rw[hx];exact AUs _
theorem Rgt.fine.hld {nc:Int} {r:Rgt} (h:r.fine nc) {i:Int} (hi:0≤i∧i <r.claims.length) {t:Th} (ht:thE t=0) (hk:t.kinds nc=true):OX nc (Go.Va.CJ r.claims i) t=0:=by
 have hm:=h.meanAt hi;unfold OX;rw[(h.mean.mean _ hm).2,ht,h.cls _ hm,hk];rfl
def Lows (J:List Row):Prop:=∀row∈J,∀n,Row.low n row=true
theorem Lows.nil:Lows []:=λrow h=>by cases h
theorem Lows.app {J:List Row} (h:Lows J) {row:Row} (hr:∀n,row.low n=true):Lows (J++[row]):=by
 intro x hx n;rcases AUK.1 hx with hx|hx
 ·exact h x hx n
 ·rw[AUC.1 hx];exact hr n
theorem Low.lows {h J:List Row} (hl:Low h) (hJ:Lows J):Low (h++J):=hl.apps λrow hr=>hJ row hr _
theorem AKS {ps:List V} {bs:List Bool} (hps:ps.length≤64) (hbs:bs.length=4096) (h:List Row) (x:Nat) (hx:h[x]?=some (CM ps bs)) (hl:Low h) (t:Th) (ht:t.ok) (hte:thE t=0) (htk:t.kinds ps.length=true)
  (r:Rgt) (hr:r.fine ps.length) (Pc:∀i:Int,0≤i→i <r.claims.length→PX 274 [.list (r.claims.map Clm.V),.int .i64 i] [(CJ r.claims i).V,.int .i64 0])
  (O:List (Int×Int)) (hO:O.length≤2^20) (S:List Int) (hS:∀i∈S,0≤i∧i <r.claims.length) (hSn:S.length≤2^20) (v24 v25 v26:V) (J:List Row) (hJ:Lows J) (a11:Nat)
  (ha11:(h++ .cells t.cells::J)[a11]?=some (.cells (r.cs.map .v))) (Q:AExit→St→Prop)
  (hQ:∀e J',Lows J'→AH e 0= .ref x 0→AH e 5= .ref h.length 0→AH e 9= .own 76 2 ((O++(S.filter λi=>(CJ r.claims i).hold (isT ps.length bs) t).map λi=>(r.file,i)).map BA)→AH e 24= .v v24→AH e 25= .v v25→AH e 26= .v v26→Q (.exit 2) ⟨e,h++ .cells t.cells::J'⟩):
  awp Tryz.prog GLx (.loop M9) Q ⟨[(0,.ref x 0),(5,.ref h.length 0),(9,.own 76 2 (O.map BA)),(11,.ref a11 0),(24,.v v24),(25,.v v25),(26,.v v26),(31,.v (AL .i64 S)),(32,.v (.int .i64 S.length)),(33,.v (.int .i64 (0:Nat)))],h++ .cells t.cells::J⟩:=by
 refine Aa S.length (λk s=>∃J',Lows J'∧s=⟨[(0,.ref x 0),(5,.ref h.length 0),(9,.own 76 2 ((O++((S.take k).filter λi=>(CJ r.claims i).hold (isT ps.length bs) t).map λi=>(r.file,i)).map BA)),(11,.ref a11 0),(24,.v v24),(25,.v v25),(26,.v v26),(31,.v (AL .i64 S)),(32,.v (.int .i64 S.length)),(33,.v (.int .i64 k))],
   h++ .cells t.cells::(J++J')⟩) ⟨[],Lows.nil,by simp⟩ ?_
 rintro k s hk ⟨J',hJ',rfl⟩;simp only[M9,AB,AA,AG,AE,VS];simp[AL];by_cases hkl:k <S.length
 ·obtain⟨i,hi⟩:∃i,S[k]?=some i:=⟨_,AT2 hkl⟩;have him:=hS i (AT3 hi);have w1:IntKind.i64.wrap ((k:Int)+1)=k+1:=AJ;have htk2:S.take (k+1)=S.take k++[i]:=by rw[AUP,hi];rfl
  have Bc:∀Z,(h++ .cells t.cells::(J++Z))[a11]?=some (.cells (r.cs.map .v)):=λZ=>by have:=AO Z ha11;simpa using this
  have q1:=(Pc i him.1 him.2).fsp;have q2:=λ(Z:List Row) (hZ:Lows Z)=>p25 hps hbs (CJ r.claims i) (hr.mean.mean _ (hr.meanAt him)).1 t ht (h++ .cells t.cells::(J++Z)) x (AO _ hx) (hl.lows (by
   intro row hrow n;rcases AT7.1 hrow with rfl|hrow
   ·exact GA n t
   ·rcases AUK.1 hrow with hrow|hrow
    ·exact hJ row hrow n
    ·exact hZ row hrow n))
  simp only[hr.hld him hte htk,decide_true,AUh]at q2;have hlen:((S.take k).filter λi=>(CJ r.claims i).hold (isT ps.length bs) t).length≤k:=by
   have:=AUn (λi=>(CJ r.claims i).hold (isT ps.length bs) t) (S.take k);rw[AUT]at this;omega
  have hfs:((S.take (k+1)).filter λi=>(CJ r.claims i).hold (isT ps.length bs) t)=((S.take k).filter λi=>(CJ r.claims i).hold (isT ps.length bs) t)++(if (CJ r.claims i).hold (isT ps.length bs) t then [i] else []):=by
   rw[htk2,AVN,AVi,AWF]
  rw[hfs];generalize ((S.take k).filter λi=>(CJ r.claims i).hold (isT ps.length bs) t)=L at*;generalize (CJ r.claims i).hold (isT ps.length bs) t=B at*;generalize CJ r.claims i=f at*;have hroom:Ae (O.length+L.length+1) 16=true:=by simp[Ae];omega
  have hlows:∀n,Row.low n (.cells f.cells)=true:=λn=>LX n f;obtain⟨fo,fn,fi,fk⟩:=f;obtain⟨cs,vs,pa⟩:=t;obtain⟨file,state,force,claims,dates,bad,owners,lics⟩:=r;simp only[F.cells,F.op,F.n,F.ins,F.kids,F.V_eq,Th.cells,Th.cs,Th.vs,Th.ps,Th.V_eq,Rgt.cs,AL]at*;simp at q1 Bc;have q2':=q2 _ (hJ'.app hlows)
  try simp at q2'
  rw[if_pos (by omega),AD];simp only[AA,VR];simp[hi];simp only[AA,VQ];simp[Bc];refine⟨_,_,q1 _,?_⟩;simp[AN,VP,AD];simp only[AA,VO];simp;refine⟨_,_,q2',?_⟩;simp[VN,AD,VM];cases B with
  |false=>
   simp[AD,AA,M7,w1,hkl];exact hJ'.app hlows
  |true=>
   simp[AA,VL,Bc,hroom,M7,w1,hkl,BA,AN];exact hJ'.app hlows
 ·have hk2:k=S.length:=by omega
  subst hk2;rw[if_neg (by omega),AM];have hJJ:Lows (J++J'):=by
   intro row hrow n;rcases AUK.1 hrow with hrow|hrow
   ·exact hJ row hrow n
   ·exact hJ' row hrow n
  rw[AUb];exact hQ _ _ hJJ rfl rfl (by simp) rfl rfl rfl
def ADL:AC:=(.seq (.reg M8 [0,5,9,11,24,25,26,31,32,33]) (.block 2 (.loop M9)))
theorem Wm:Rk=(.seq (.reg Rj [0,5,9,24,25,26,27]) (.seq (.cond (.t 27 false) .skip (.exit 0)) (.seq (.block 1 (.seq (.reg Ri [0,5,9,11,24,25,26]) ADL)) (.reg M6 [0,5,9,24,25,26])))):=rfl
theorem ARc {ps:List V} {bs:List Bool} (hps:ps.length≤64) (hbs:bs.length=4096) (h:List Row) (x:Nat) (hx:h[x]?=some (CM ps bs)) (hl:Low h) (t:Th) (ht:t.ok) (hte:thE t=0) (htk:t.kinds ps.length=true)
  (rs:List Rgt) (hr:∀r∈rs,r.fine ps.length) (hrl:rs.length≤2^10) (hrc:∀r∈rs,r.claims.length≤2^8)
  (Pc:∀r∈rs,∀i:Int,0≤i→i <r.claims.length→PX 274 [.list (r.claims.map Clm.V),.int .i64 i] [(CJ r.claims i).V,.int .i64 0]) (Q:AExit→St→Prop)
  (hQ:∀e J',AH e 9= .own 76 2 ((BU (isT ps.length bs) t rs).map BA)→Q (.exit 0) ⟨e,h++ .cells t.cells::J'⟩):
  awp Tryz.prog GLx (.loop Rk) Q ⟨[(0,.ref x 0),(5,.ref h.length 0),(9,.own 76 2 []),(24,.v (.list (rs.map Rgt.V))),(25,.v (.int .i64 rs.length)),(26,.v (.int .i64 (0:Nat)))],h++[.cells t.cells]⟩:=by
 refine Aa rs.length (λk s=>∃J',Lows J'∧s=⟨[(0,.ref x 0),(5,.ref h.length 0),(9,.own 76 2 ((BU (isT ps.length bs) t (rs.take k)).map BA)),(24,.v (.list (rs.map Rgt.V))),(25,.v (.int .i64 rs.length)),(26,.v (.int .i64 k))],
   h++ .cells t.cells::J'⟩) ⟨[],Lows.nil,by simp[BU]⟩ ?_
 rintro k s hk ⟨J',hJ',rfl⟩;rw[Wm];simp only[AB,AA,AG,AE,Rj];simp;by_cases hkl:k <rs.length
 ·obtain⟨r,hri⟩:∃r,rs[k]?=some r:=⟨_,AT2 hkl⟩;have hrm:=AT3 hri;have hrr:=hr r hrm;have w1:IntKind.i64.wrap ((k:Int)+1)=k+1:=AJ;have htk2:rs.take (k+1)=rs.take k++[r]:=by rw[AUP,hri];rfl
  have hfs:BU (isT ps.length bs) t (rs.take (k+1))=BU (isT ps.length bs) t (rs.take k)++C9 (isT ps.length bs) t r:=by
   rw[htk2];unfold BU;rw[AVr];simp
  have hOl:(BU (isT ps.length bs) t (rs.take k)).length≤2^20:=by
   have:∀(l:List Rgt),(∀r∈l,r.claims.length≤2^8)→(BU (isT ps.length bs) t l).length≤2^8*l.length:=by
    intro l;induction l with
    |nil=>intro _;simp[BU]
    |cons y l ih=>
     intro hy;have h1:=ih λz hz=>hy z (by simp[hz]);have h2:=hy y (by simp);have h3:=Ik y;have h4:(C9 (isT ps.length bs) t y).length≤(E3 y).length:=by
      unfold C9;rw[AUM];exact AUn _ _
     unfold BU at h1 ⊢;rw[AUN,AT5,AUO,AVv];omega
   have:=this (rs.take k) λy hy=>hrc y (AUi hy);rw[AUT]at this;have:2^8*min k rs.length≤2^8*2^10:=AWB _ (by omega);omega
  have hc8:=hrc r hrm;have q1:=(APv r (by omega) hrr.bad).fsp;have hlive:=Ik r;have hloop:=λv24 v25 v26 J hJ a11 ha11 Q=>AKS hps hbs h x hx hl t ht hte htk r hrr (Pc r hrm) _ hOl (E3 r) (λi hi=>OO hi) (by omega) v24 v25 v26 J hJ a11 ha11 Q;rw[hfs];unfold C9;generalize BU (isT ps.length bs) t (rs.take k)=O at*;rw[if_pos (by omega),AD];simp only[AA,Ri];have hcsl:∀n,Row.low n (.cells (r.cs.map .v))=true:=λn=>by simp only[Row.low];exact G3 _
  have hlp:=λQ=>hloop (.list (rs.map Rgt.V)) (.int .i64 rs.length) (.int .i64 k) (J'++[.cells (r.cs.map .v)]) (hJ'.app hcsl) (h.length+(J'.length+1)) (by
   simp) Q
  generalize hLR:E3 r=LR at*;obtain⟨file,state,force,claims,dates,bad,owners,lics⟩:=r;simp only[Rgt.V,Rgt.cs,AL]at*;simp at q1;simp[hri,Rgt.V,Rgt.cs,AL,AN];unfold ADL;simp only[AB,AA,AG,M8];simp;refine⟨_,_,q1 _,?_⟩;simp[AL];simp[AL]at hlp;refine hlp _ ?_;intro e J2 hJ2 g0 g5 g9 g24 g25 g26;simp[AA,M6,g0,g5,g9,g24,g25,g26,w1,hkl];exact hJ2
 ·have hk2:k=rs.length:=by omega
  subst hk2;rw[if_neg (by omega),AM,AUb];exact hQ _ _ rfl
theorem AQg {ps:List V} {bs:List Bool} (hps:ps.length≤64) (hbs:bs.length=4096) (h:List Row) (x:Nat) (hx:h[x]?=some (CM ps bs)) (hl:Low h) (t:Th) (ht:t.ok) (hte:thE t=0) (htk:t.kinds ps.length=true)
  (rs:List Rgt) (hr:∀r∈rs,r.fine ps.length) (hrl:rs.length≤2^10) (hrc:∀r∈rs,r.claims.length≤2^8)
  (Pc:∀r∈rs,∀i:Int,0≤i→i <r.claims.length→PX 274 [.list (r.claims.map Clm.V),.int .i64 i] [(CJ r.claims i).V,.int .i64 0]):
  FX 185 [.ref x 0,.v (.list (rs.map Rgt.V)),.v t.V] h [.own 76 2 ((BU (isT ps.length bs) t rs).map BA),.v (.int .i64 0)] h:=by
 refine Ai AS6 rfl (AT6 _) hl (by simp[D.lt]) ?_;have q67:=(p67 t ht).fsp;rw[hte]at q67;have hloop:=λQ=>ARc hps hbs h x hx hl t ht hte htk rs hr hrl hrc Pc Q;have hth:t.V= .agg [AL .i64 t.cs,.list (t.vs.map Val.V),.list (t.ps.map Th.V)]:=by obtain⟨a,b,c⟩:=t;exact Th.V_eq ..
 rw[hth]at q67 ⊢;simp only[Th.cells]at hloop;simp[AL]at q67 hloop;simp only[AOK,AB,AA,AG,AE,o8,o7,AS];simp[AL,AD,AA,o6];refine⟨_,_,q67 _,?_⟩;simp[AA,AE,oz,AD,oy,ov];refine hloop _ ?_;intro e J g9;simp[AA,VK,g9,AF,ADK]
theorem APs (r:Rgt) (f i:Int) (h:List Row) (q:Nat) (hq:h[q]?=some (.cells [.v (.int .i64 f),.v (.int .i64 i)])) (hl:Low h):FX 276 [.v r.V,.ref q 0] h [.v (.bool (r.file==f))] h:=by
 refine Ai ASQ rfl (AT6 _) hl (by simp[D.lt]) ?_;have hq':=λZ=>AO Z hq;simp[ANO,awp,iP,iO,ACc,AS,Rgt.V,Rgt.cs,hq']
theorem APr (d:Dat) (f i j day:Int) (ds:List D) (h:List Row) (a b c:Nat) (ha:h[a]?=some (.cells [.v (.int .i64 f),.v (.int .i64 i)])) (hb:h[b]?=some (.cells [.v (.int .i64 j)])) (hc:h[c]?=some (.cells ds)) (hd:ds[3]?=some (.v (.int .i64 day))) (hl:Low h):
  FX 278 [.v d.V,.ref a 0,.ref b 0,.ref c 0] h [.v (.bool (((d.cl==i)&&(d.ix==j))&&decide (d.day <day)))] h:=by
 refine Ai ASP rfl (AT6 _) hl (by simp[D.lt]) ?_;have ha':=λZ=>AO Z ha;have hb':=λZ=>AO Z hb;have hc':=λZ=>AO Z hc;have hlen:3 <ds.length:=(AT4.1 hd).1;have hlen4:4≤ds.length:=hlen;have hd2:ds[3]'hlen= .v (.int .i64 day):=(AT4.1 hd).2;cases h1:(d.cl==i)&&(d.ix==j)with
 |false=>simp[AG7,awp,Q7,Q6,iN,AS,Dat.V,ha',hb',hc',h1,V.eqL,V.eq1,AN]
 |true=>simp[AG7,awp,Q7,Q6,iN,AS,Dat.V,ha',hb',hc',h1,V.eqL,V.eq1,D.part,hd,hd2,hlen,hlen4,AN]
def mkA (a b:F):F:= .mk 4 0 [] (Bb a++Bb b)
def D1 (acc:List (List F)) (c:Clm):List F:=if c.refs=[] then c.body.tops else c.refs.flatMap λr=>((acc[r.toNat]?).getD []).flatMap λa=>c.body.tops.map λb=>mkA a b
def Bv (l:List Clm):List (List F):=l.foldl (λacc c=>acc++[D1 acc c]) []
def CS (l:List Clm) (i:Int):List F:=((Bv l)[i.toNat]?).getD []
def K1 (nc:Int) (al:List F):Prop:=al.length≤64∧∀f∈al,f.ok∧BM f=0∧f.nodes.all (okC nc)=true
theorem ALY {nc:Int} {al:List F} (h:K1 nc al) {f:F} (hf:f∈al) {t:Th} (ht:thE t=0) (hk:t.kinds nc=true):OX nc f t=0:=by
 obtain⟨_,h2,h3⟩:=h.2 f hf;unfold OX;rw[h2,ht,h3,hk];rfl
def Py (r:Rgt) (i j day:Int):Bool:=r.dates.any λd=>((d.cl==i)&&(d.ix==j))&&decide (d.day <day)
def Fw (I:Int→Int→Bool) (t:Th) (r:Rgt) (i day:Int):Nat→List F→Bool
 |_,[]=>false
 |k,a::al=>(a.hold I t&&Py r i k day)||Fw I t r i day (k+1) al
def Nn (I:Int→Int→Bool) (t:Th) (r:Rgt) (i day:Int):Bool:=Fw I t r i day 0 (CS r.claims i)
theorem Kv (I:Int→Int→Bool) (t:Th) (r:Rgt) (i day:Int) (b:F):∀(al:List F) (k:Nat),Fw I t r i day k (al++[b])=(Fw I t r i day k al||(b.hold I t&&Py r i ((k+al.length:Nat):Int) day))
 |[],k=>by simp[Fw]
 |a::al,k=>by
  simp only[AUx,Fw,Kv I t r i day b al (k+1),AUO];rw[show k+1+al.length=k+(al.length+1) by omega,Bool.or_assoc]
def ADJ:AC:=(.seq (.seq (.reg M4 [0,4,5,9,12,13,15,16,37,38,39,53]) (.cond (.t 53 false) (.seq (.reg VJ [6,7]) .ret) .skip)) (.reg M3 [0,4,5,9,12,37,38,39]))
theorem Wl:Rh=(.seq (.reg Rg [0,4,5,9,12,37,38,39,40]) (.seq (.cond (.t 40 false) .skip (.exit 0)) (.seq (.block 1 (.seq (.reg Rf [0,4,5,9,12,13,14,37,38,39]) (.seq (.reg M5 [0,4,5,9,12,13,15,16,37,38,39]) ADJ))) (.reg IN [0,4,5,9,12,37,38,39])))):=rfl
theorem ARb {ps:List V} {bs:List Bool} (hps:ps.length≤64) (hbs:bs.length=4096) (H:List Row) (x:Nat) (hx:H[x]?=some (CM ps bs)) (hl:Low H) (t:Th) (ht:t.ok) (hte:thE t=0) (htk:t.kinds ps.length=true)
  (r:Rgt) (hrd:r.dates.length <2^40) (f i day:Int) (a4 a5 a9:Nat) (d0 d1 d2 d7 d8 d9 d10 d11 d12:D) (h4:H[a4]?=some (.cells [d0,d1,d2,.v (.int .i64 day),.v (AL .i64 t.cs),.v (.list (t.vs.map Val.V)),.v (.list (t.ps.map Th.V)),d7,d8,d9,d10,d11,d12]))
  (h5:H[a5]?=some (.cells [.v (.int .i64 f),.v (.int .i64 i)])) (h9:H[a9]?=some (.cells (r.cs.map .v))) (al:List F) (has:K1 ps.length al) (Q:AExit→St→Prop)
  (hQ:∀e J,AH e 12= .v (.bool (Fw (isT ps.length bs) t r i day 0 al))→Q (.exit 0) ⟨e,H++J⟩):
  awp Tryz.prog GLx (.loop Rh) Q ⟨[(0,.ref x 0),(4,.ref a4 0),(5,.ref a5 0),(9,.ref a9 0),(12,.v (.bool false)),(37,.v (.list (al.map F.V))),(38,.v (.int .i64 al.length)),(39,.v (.int .i64 (0:Nat)))],H⟩:=by
 refine Aa al.length (λk s=>∃J,Lows J∧s=⟨[(0,.ref x 0),(4,.ref a4 0),(5,.ref a5 0),(9,.ref a9 0),(12,.v (.bool (Fw (isT ps.length bs) t r i day 0 (al.take k)))),(37,.v (.list (al.map F.V))),(38,.v (.int .i64 al.length)),(39,.v (.int .i64 k))],H++J⟩)
  ⟨[],Lows.nil,by simp[Fw]⟩ ?_
 rintro k s hk ⟨J,hJ,rfl⟩;rw[Wl];simp only[AB,AA,AG,AE,Rg];simp;by_cases hkl:k <al.length
 ·obtain⟨a,ha⟩:∃a,al[k]?=some a:=⟨_,AT2 hkl⟩;have ham:=AT3 ha;have hlen:=has.1;have w1:IntKind.i64.wrap ((k:Int)+1)=k+1:=AJ;have htk2:al.take (k+1)=al.take k++[a]:=by rw[AUP,ha];rfl
  have hbt:=Kv (isT ps.length bs) t r i day a (al.take k) 0;rw[←htk2,AUT,AVG (by omega),AU9]at hbt;rw[hbt];have hx':=λZ=>AO Z hx;have h4':=λZ=>AO Z h4;have h5':=λZ=>AO Z h5;have h9':=λZ=>AO Z h9;have hlw:∀n,Row.low n (.cells [.v (.int .i64 k)])=true:=λn=>by simp[Row.low,D.lts,D.lt]
  have hlf:∀n,Row.low n (.cells a.cells)=true:=λn=>LX n a;have hJ2:Lows (J++[.cells [.v (.int .i64 k)],.cells a.cells]):=by
   have:=(hJ.app hlw).app hlf;simpa using this
  have q1:=p25 hps hbs a (has.2 a ham).1 t ht (H++(J++[.cells [.v (.int .i64 k)],.cells a.cells])) x (hx' _) (hl.lows hJ2);rw[ALY has ham hte htk]at q1;simp only[decide_true,AUh]at q1;have hH:Low (H++(J++[.cells [.v (.int .i64 k)],.cells a.cells])):=hl.lows hJ2;have hidx:IdxR Tryz.prog GLx 278 [.ref a5 0,.ref (H.length+J.length) 0,.ref a4 0] (r.dates.map Dat.V) (H++(J++[.cells [.v (.int .i64 k)],.cells a.cells])) (r.dates.findIdx? λd=>((d.cl==i)&&(d.ix==(k:Int)))&&decide (d.day <day)) (H++(J++[.cells [.v (.int .i64 k)],.cells a.cells])):=
   IdxR.map λd _=>APr d f i k day _ _ a5 (H.length+J.length) a4 (h5' _) (by rw[At H _ _ J.length rfl];simp) (h4' _) rfl hH
  have hcf:=AJa (.func 278 [.ref a5 0,.ref (H.length+J.length) 0,.ref a4 0]) 278 _ (FV.r 278 a5 0 [.ref (H.length+J.length) 0,.ref a4 0]) (r.dates.map Dat.V) (by simpa using hrd) (by
   intro x hx;obtain⟨y,_,rfl⟩:=AT9.1 hx;exact⟨_,rfl,rfl⟩) hidx
  rw[CU]at hcf;have hdb:(r.dates.any λd=>((d.cl==i)&&(d.ix==(k:Int)))&&decide (d.day <day))=Py r i k day:=rfl;rw[hdb]at hcf;generalize Py r i k day=B at*;generalize Fw (isT ps.length bs) t r i day 0 (al.take k)=A at*;generalize a.hold (isT ps.length bs) t=T at*;obtain⟨fo,fn,fi,fk⟩:=a;obtain⟨cs,vs,pa⟩:=t;obtain⟨file,state,force,claims,dates,bad,owners,lics⟩:=r;simp only[F.cells,F.op,F.n,F.ins,F.kids,F.V_eq,Th.cells,Th.cs,Th.vs,Th.ps,Th.V_eq,Rgt.cs,AL]at*;simp at q1 hcf h4' h5' h9';rw[if_pos (by omega),AD];simp only[AA,Rf];simp[ha,F.V_eq,AN];simp only[AA,M5];simp[h4'];refine⟨_,_,q1,?_⟩;unfold ADJ;simp[AB,AA,AE,M4,AD];simp only[AA,M3];simp;cases A with
  |true=>
   simp[IN,w1,hkl];exact hJ2
  |false=>
   cases T with
   |false=>
    simp[IN,w1,hkl];exact hJ2
   |true=>
    simp[h9'];refine⟨_,_,hcf,?_⟩;simp[IN,w1,hkl];exact hJ2
 ·have hk2:k=al.length:=by omega
  subst hk2;rw[if_neg (by omega),AM,AUb];exact hQ _ _ rfl
open Go.Proofs Go.Shelf
def rnG:Ren:=⟨λ|4=>245|n=>n,λ|22=>77|25=>84|n=>n,λn=>n⟩
theorem AJ6:Lays8.n4 Tryz.prog rnG where
 mixed:=by kernel_rfl
 f4:=⟨Tryz.f245.name,by kernel_rfl,Tryz.func245.trans (congrArg some (by kernel_rfl))⟩
 t0:=Tryz.underlying0
 a0:=Tryz.isAgg0
 z0:=Tryz.sizeOf0
 v0:=Tryz.zeroValue0
 t3:=Tryz.underlying3
 a3:=Tryz.isAgg3
 z3:=Tryz.sizeOf3
 v3:=Tryz.zeroValue3
 t4:=Tryz.underlying4
 a4:=Tryz.isAgg4
 z4:=Tryz.sizeOf4
 v4:=Tryz.zeroValue4
 t9:=Tryz.underlying9
 a9:=Tryz.isAgg9
 z9:=Tryz.sizeOf9
 v9:=Tryz.zeroValue9
 t20:=Tryz.underlying20
 a20:=Tryz.isAgg20
 z20:=Tryz.sizeOf20
 v20:=Tryz.zeroValue20
 t22:=Tryz.underlying77
 a22:=Tryz.isAgg77
 z22:=Tryz.sizeOf77
 v22:=Tryz.zeroValue77
theorem AE4:∃i z,Tryz.prog.info? 84=some i∧i.zero=some z∧i.size=4∧z.cells.size=4∧i.bytes≤64:=by
 have hk:(match Tryz.prog.info? 84 with|some i=>(match i.zero with|some z=>i.size==4&&z.cells.size==4&&decide (i.bytes≤64)|none=>false)|none=>false)=true:=by kernel_rfl
 cases hi:Tryz.prog.info? 84 with
 |none=>rw[hi]at hk;cases hk
 |some i=>
  rw[hi]at hk;simp only at hk;cases hz:i.zero with
  |none=>rw[hz]at hk;cases hk
  |some z=>
   rw[hz]at hk;simp only[AT1,beq_iff_eq,decide_eq_true_eq]at hk;exact⟨i,z,rfl,hz,hk.1.1,hk.1.2,hk.2⟩
theorem AP8 (n:Nat) (hn:n≤2^30) (h:List Row):FX 245 [.nil 84 4,.v (.int .i64 n)] h [.own 84 4 []] h:=by
 refine⟨by kernel_rfl,λg w μ us O hinv hgl hall htame=>?_⟩;obtain⟨hlen,Bc⟩:=hall;obtain⟨u,v,rfl⟩:∃u v,us=[u,v]:=by
  match us,hlen with
  |[u,v],_=>exact⟨u,v,rfl⟩
 have hu:RepE g w μ (.nil 84 4) u:=Bc 0 _ u rfl rfl;have hv:RepV g (.int .i64 n) v:=Bc 1 (.v (.int .i64 n)) v rfl rfl;obtain⟨a,rfl,ha⟩:=hu;cases hv;rcases AV2 n with rfl|hpos
 ·have c:=Any8.slices_Grow_room AJ6 a 0 0 0 w (by omega) (by omega) (by omega) (by omega);refine Calls.mono c ?_;rintro e w' ⟨rfl,rfl⟩;have hc:Chg (λ_=>False) g w' g w':=⟨Gh.le.refl g,AT6 _,λ_ _ _=>rfl,λ_ _ _ _=>rfl,rfl,rfl⟩;exact⟨_,g,μ,rfl,hinv.newOwn (d:=0) hc hinv.agree (.inl ⟨a,rfl,rfl,ha⟩) (by intro b hb;cases a<;>simp[AZ]at hb),hc.mono λ_ h=>h.elim,AT8 _⟩
 ·obtain⟨i0,z,hi0,hz0,hs0,hzc,hby⟩:=AE4;have c:=Any8.slices_Grow_grow AJ6 i0 z hi0 hz0 (by omega) a 0 0 n [] w (by omega) (by omega) (by
   have:(0+n)*i0.bytes≤2^30*64:=Nat.mul_le_mul (by omega) hby;omega) (by omega) (by simp) (λ_=>rfl) (by simp)
  refine Calls.mono c ?_;rintro e w' ⟨rfl,rfl⟩;have hG:=grownCap_ge w (0+n) 0 (rnG.t 25);generalize grownCap w (0+n) 0 (rnG.t 25)=G at hG ⊢;have hsz:(#[]++Builtin.zeroCells z.cells (0+n-0)++Builtin.zeroCells z.cells (G-(0+n))).size=G*4:=by
   simp only[Array.size_append,size_zeroCells,hzc,Array.size_empty];omega
  have hsz':([].toArray++Builtin.zeroCells z.cells (0+n-0)++Builtin.zeroCells z.cells (G-(0+n))).size=G*4:=hsz;generalize [].toArray++Builtin.zeroCells z.cells (0+n-0)++Builtin.zeroCells z.cells (G-(0+n))=arr at hsz' ⊢;have hold:∀b,b <w.heap.size→∀x,(w.heap.push x)[b]?=w.heap[b]?:=λb hb x=>by rw[Array.getElem?_push,if_neg (by omega)]
  have hagree:∀b o v,g.m b o=some v→b <w.heap.size:=by
   intro b o v hv;have h2:=hinv.agree b o v hv;rcases AUS b w.heap.size with h'|h'
   ·exact h'
   ·simp[World.cell?,AVP h']at h2
  have hc:Chg (λ_=>False) g w g (w.drew.alloc (.cells arr (rnG.t 25))):=⟨Gh.le.refl g,by show w.heap.size≤(w.heap.push _).size;rw[Array.size_push];omega,λb hb _=>hold b hb _,λ_ _ _ _=>rfl,rfl,rfl⟩;refine⟨_,g,μ,rfl,hinv.newOwn (d:=0) (e:=84) (s:=4) (xs:=[]) hc (λb o v hv=>?_) (.inr ⟨w.heap.size,G,arr,λ_=> .bool false,rfl,by omega,by show (w.heap.push _)[w.heap.size]?=_;rw[Array.getElem?_push,if_pos rfl];rfl,by simp,hsz',by simp,by simp,λo _=>?_⟩) ?_,hc.mono λ_ h=>h.elim,AT8 _⟩
  ·have h1:=hinv.agree b o v hv;have h2:=hold b (hagree b o v hv) (.cells arr (rnG.t 25));rw[World.cell?_of_block (a:=⟨b,o,none⟩) h2];exact h1
  ·cases h4:g.m w.heap.size o with
   |none=>rfl
   |some v=>have:=hagree _ _ _ h4;omega
  ·intro b hb;simp only[AZ]at hb;split at hb
   ·cases hb
   ·simp only[AT0]at hb;rw[←hb];exact AT6 _
def YL:List GI:=[⟨none,.mv 2 (.c (.own 84 4 []))⟩]
def YK:List GI:=[⟨none,.mv 3 (.c (.v (.int .i64 0)))⟩]
def YJ:List GI:=[⟨none,.mv 9 (.t 0 false)⟩,
 ⟨none,.p 10 (.alen (.t 9 false))⟩,
 ⟨none,.mv 11 (.c (.v (.int .i64 0)))⟩]
def YI:List GI:=[⟨none,.p 12 (.bin .lss (.t 11 false) (.t 10 false))⟩]
def YH:List GI:=[⟨none,.p 13 (.iaddr (.t 9 false) (.t 11 false) 1)⟩,
 ⟨none,.p 14 (.load (.t 13 false) 1 false)⟩,
 ⟨none,.mv 5 (.t 14 true)⟩]
def YG:List GI:=[⟨none,.mv 15 (.t 3 false)⟩,
 ⟨none,.mv 16 (.t 5 true)⟩,
 ⟨none,.p 17 (.alen (.t 16 false))⟩,
 ⟨none,.p 18 (.bin .add (.t 15 false) (.t 17 false))⟩,
 ⟨none,.mv 3 (.t 18 false)⟩]
def YF:List GI:=[⟨none,.mv 19 (.t 3 false)⟩,
 ⟨none,.p 20 (.bin .lss (.t 19 false) (.c (.v (.int .i64 0))))⟩]
def YE:List GI:=[⟨none,.p 22 (.bin .add (.t 11 false) (.c (.v (.int .i64 1))))⟩,
 ⟨none,.mv 11 (.t 22 false)⟩]
def YN:AC:=(.seq (.reg YI [0,3,9,10,11,12]) (.seq (.cond (.t 12 false) .skip (.exit 0)) (.seq (.block 1 (.seq (.reg YH [0,3,5,9,10,11]) (.seq (.reg YG [0,3,9,10,11]) (.seq (.reg YF [0,3,9,10,11,20]) (.cond (.t 20 false) .never .skip))))) (.reg YE [0,3,9,10,11]))))
def YD:List GI:=[⟨none,.mv 23 (.t 3 false)⟩,
 ⟨none,.callN (some 24) (.c (.v (.func 245 []))) [(.c (.nil 84 4)),(.t 23 false)]⟩,
 ⟨none,.mv 6 (.t 24 true)⟩]
def To:List GI:=[⟨none,.mv 25 (.t 0 true)⟩,
 ⟨none,.p 26 (.alen (.t 25 false))⟩,
 ⟨none,.mv 27 (.c (.v (.int .i64 0)))⟩]
def Tn:List GI:=[⟨none,.p 28 (.bin .lss (.t 27 false) (.t 26 false))⟩]
def Tm:List GI:=[⟨none,.p 29 (.iaddr (.t 25 false) (.t 27 false) 1)⟩,
 ⟨none,.p 30 (.load (.t 29 false) 1 false)⟩,
 ⟨none,.mv 8 (.t 30 true)⟩]
def Tl:List GI:=[⟨none,.mv 31 (.t 6 true)⟩,
 ⟨none,.mv 32 (.t 8 true)⟩,
 ⟨none,.app 33 (.t 31 true) (.t 32 false) 84 4 64⟩,
 ⟨none,.mv 6 (.t 33 true)⟩]
def Tk:List GI:=[⟨none,.p 34 (.bin .add (.t 27 false) (.c (.v (.int .i64 1))))⟩,
 ⟨none,.mv 27 (.t 34 false)⟩]
def YM:AC:=(.seq (.reg Tn [6,25,26,27,28]) (.seq (.cond (.t 28 false) .skip (.exit 2)) (.seq (.block 3 (.seq (.reg Tm [6,8,25,26,27]) (.reg Tl [6,25,26,27]))) (.reg Tk [6,25,26,27]))))
def Tj:List GI:=[⟨none,.mv 35 (.t 6 true)⟩,
 ⟨none,.mv 2 (.t 35 true)⟩]
def ALe:AC:=(.seq (.reg YL [0]) (.seq (.reg YK [0,3]) (.seq (.seq (.reg YJ [0,3,9,10,11]) (.block 0 (.loop YN))) (.seq (.reg YD [0,6]) (.seq (.seq (.reg To [6,25,26,27]) (.block 2 (.loop YM))) (.seq (.reg Tj [2]) .ret))))))
def yh:List AR:=[.t 2]
theorem ARF:DO Tryz.prog GLx 140 1 ALe yh=true:=by kernel_rfl
theorem AQ2 (L:List (List F)) (hL:L.length≤2^20) (hn:L.flatten.length≤2^30):PX 140 [.list (L.map λl=> .list (l.map F.V))] [.list (L.flatten.map F.V)]:=by
 refine AK ARF rfl ?_;have hh:∀l:List F,CK 4 (l.map F.V)=true:=by
  intro l;cases l with
  |nil=>rfl
  |cons x xs=>obtain⟨op,n,ins,kids⟩:=x;simp[F.V_eq,V.cells]
 have q:=AP8 L.flatten.length hn [];obtain⟨U,hU⟩:∃U:Nat→List F,∀k,U k=(L.take k).flatten:=⟨_,λ_=>rfl⟩;have hU0:U 0=[]:=by rw[hU];rfl
 have hUn:U L.length=L.flatten:=by rw[hU,AUb]
 have hUs:∀k l,L[k]?=some l→U (k+1)=U k++l:=by
  intro k l h;rw[hU,hU,AUP,h];simp
 have hUl:∀k,(U k).length≤L.flatten.length:=by
  intro k;rw[hU];conv=>rhs;rw[←AUr k L,List.flatten_append,AT5]
  omega
 rw[←hUn]at q hUl ⊢;rw[←hUn]at hn;simp only[ALe,AB,AA,AG,YL,YK,YJ,AY];simp;refine Ad L.length (λk=>⟨[(0,.v (.list (L.map λl=> .list (l.map F.V)))),(3,.v (.int .i64 (U k).length)),(9,.v (.list (L.map λl=> .list (l.map F.V)))),(10,.v (.int .i64 L.length)),(11,.v (.int .i64 k))],[]⟩) (by simp[hU0]) ?_;intro k hk;simp only[YN,AB,AA,AG,AE,YI];simp;by_cases h1:k <L.length
 ·obtain⟨l,hl⟩:∃l,L[k]?=some l:=⟨_,AT2 h1⟩;have w1:IntKind.i64.wrap ((k:Int)+1)=k+1:=AJ;have hle:=hUl (k+1);rw[hUs k l hl,AT5]at hle;rw[hUs k l hl,AT5];generalize (U k).length=s at*;have w2:IntKind.i64.wrap ((s:Int)+l.length)=s+l.length:=AJ;have w3:¬((s:Int)+l.length <0):=by omega
  rw[if_pos (by omega),AD];simp only[AA,YH,YG,YF];have hl':L[k]'h1=l:=by have:=AT2 h1;rw[hl]at this;exact(AVy this).symm
  simp[hl,hl',w2,w3,AD,YE,w1,h1]
 ·have hk2:k=L.length:=by omega
  subst hk2;rw[if_neg (by omega),AM];simp only[AA,YD];simp;refine⟨_,_,q,?_⟩;simp[To];refine Ad L.length (λk=>⟨[(6,.own 84 4 ((U k).map F.V)),(25,.v (.list (L.map λl=> .list (l.map F.V)))),(26,.v (.int .i64 L.length)),(27,.v (.int .i64 k))],[]⟩) (by simp[hU0]) ?_;intro k hk;simp only[YM,AB,AA,AG,AE,Tn];simp;by_cases h1:k <L.length
  ·obtain⟨l,hl⟩:∃l,L[k]?=some l:=⟨_,AT2 h1⟩;have w1:IntKind.i64.wrap ((k:Int)+1)=k+1:=AJ;have hle:=hUl (k+1);rw[hUs k l hl,AT5]at hle;rw[hUs k l hl,AUZ];generalize U k=s at*;have hroom:Ae (s.length+l.length) 64=true:=by simp[Ae];omega
   rw[if_pos (by omega),AD];simp only[AA,Tm,Tl];have hl':L[k]'h1=l:=by have:=AT2 h1;rw[hl]at this;exact(AVy this).symm
   simp[hl,hl',hh,hroom,Tk,w1,h1]
  ·have hk3:k=L.length:=by omega
   subst hk3;rw[if_neg (by omega),AM];simp[AB,AA,Tj,AF,yh]
section
variable {P:Program} {GL:AX}
def wu (clos:List (List Nat)) (n:Nat) (rem:List Nat):Prop:=∀j <n,j∉rem→∀i∈(clos[j]?).getD [],i∉rem
theorem TA {clos:List (List Nat)} {rem:List Nat} {i:Nat} (h:rdy clos rem i=true):i∈rem∧∀j∈(clos[i]?).getD [],j∉rem:=by
 simp only[rdy,AT1,List.contains_iff_mem,AUI,AUw,←Bool.not_eq_true]at h;exact⟨h.1,λj hj=>by simpa using h.2 j hj⟩
theorem uI {is:List GI} {clos:List (List Nat)} {n:Nat} {K:St→Prop} (I:List Nat→St→Prop)
  (hstep:∀rem i s,i∈rem→(∀j∈(clos[i]?).getD [],j∉rem)→(∀j <n,j∉rem→i∉(clos[j]?).getD [])→I rem s→∃s1,BD P GL (is.getD i default) s s1∧I (rem.erase i) s1)
  (hfin:∀s,I [] s→K s):∀(t:AT) (rem:List Nat) (s:St),rem.Nodup→wu clos n rem→t.chk is clos rem=true→I rem s→t.ok P GL is K s:=by
 have down:∀rem i,rem.Nodup→wu clos n rem→i∈rem→(∀j∈(clos[i]?).getD [],j∉rem)→wu clos n (rem.erase i):=by
  intro rem i hnd hd hi hdep j hj hjr k hk hkr;have hk2:k∈rem:=AVZ hkr;by_cases hji:j=i
  ·subst hji;exact hdep k hk hk2
  ·exact hd j hj (λhm=>hjr ((AWP hji).2 hm)) k hk hk2
 intro t;induction t with
 |done=>
  intro rem s _ _ hc hi;simp only[AT.chk,List.isEmpty_iff]at hc;subst hc;exact hfin s hi
 |take i t ih=>
  intro rem s hnd hd hc hi;simp only[AT.chk,AT1]at hc;obtain⟨h1,h2⟩:=TA hc.1.1.1;obtain⟨s1,g1,g2⟩:=hstep rem i s h1 h2 (λj hj hjr hij=>hd j hj hjr i hij h1) hi;exact⟨s1,g1,ih _ _ (hnd.erase i) (down rem i hnd hd h1 h2) hc.2 g2⟩
 |pick c ih=>
  intro rem s hnd hd hc hi;simp only[AT.chk,AT1]at hc;exact ih rem s hnd hd hc.2 hi
 |alt i t r iht ihr=>
  intro rem s hnd hd hc hi;simp only[AT.chk,AT1]at hc;obtain⟨h1,h2⟩:=TA hc.1.1.1;obtain⟨s1,g1,g2⟩:=hstep rem i s h1 h2 (λj hj hjr hij=>hd j hj hjr i hij h1) hi;exact⟨⟨s1,g1,iht _ _ (hnd.erase i) (down rem i hnd hd h1 h2) hc.1.2 g2⟩,ihr rem s hnd hd hc.2 hi⟩
 |none=>intro rem s _ _ _ _;trivial
def did (d:Nat→Bool) (i:Nat):Nat→Bool:=λj=>decide (j=i)||d j
theorem IT {is:List GI} {clos:List (List Nat)} {n:Nat} {K:St→Prop} (I:(Nat→Bool)→St→Prop) {t:AT} (ht:t.chk is clos (List.range n)=true)
  (hstep:∀d i s,i <n→d i=false→(∀j∈(clos[i]?).getD [],d j=true)→(∀j <n,i∈(clos[j]?).getD []→d j=false)→I d s→∃s1,BD P GL (is.getD i default) s s1∧I (did d i) s1)
  (hfin:∀d s,(∀j <n,d j=true)→I d s→K s) {s:St} (h0:I (λj=>decide (n≤j)) s):t.ok P GL is K s:=by
 refine uI (clos:=clos) (n:=n) (λrem s=>rem.Nodup∧(∀i∈rem,i <n)∧I (λj=>decide (j∉rem)) s) ?_ ?_ t (List.range n) s AWR ?_ ht ⟨AWR,λi hi=>AUR.1 hi,?_⟩
 ·rintro rem i s hi hdep hup ⟨hnd,hlt,hI⟩;obtain⟨s1,g1,g2⟩:=hstep (λj=>decide (j∉rem)) i s (hlt i hi) (by simpa using hi) (λj hj=>by simpa using hdep j hj) (λj hj hij=>by
   have:j∈rem:=Classical.byContradiction λh=>hup j hj h hij;simpa using this) hI
  refine⟨s1,g1,hnd.erase i,λj hj=>hlt j (AVZ hj),?_⟩;have e:(λj=>decide (j∉rem.erase i))=did (λj=>decide (j∉rem)) i:=by
   funext j
   simp only[did,hnd.mem_erase_iff];by_cases h1:j=i<;>simp[h1]
  rw[e];exact g2
 ·rintro s ⟨_,_,hI⟩;exact hfin _ s (λj _=>by simp) hI
 ·intro j hj hjr i hi;exact absurd (AUR.2 hj) hjr
 ·have e:(λj=>decide (j∉List.range n))=λj=>decide (n≤j):=by
   funext j;simp
  rw[e];exact h0
def EnvD (ns cs:List (Option Nat)) (bn:List Nat) (vs bv:Nat→D) (d:Nat→Bool) (e:Env):Prop:=
 (∀j k:Nat,ns[j]?=some (some k)→d j=true→(∀c:Nat,cs[j]?=some (some c)→d c=false)→AH e k=vs j)∧∀k∈bn,AH e k=bv k
def okN (ns:List (Option Nat)) (bn:List Nat):Bool:=
 (List.range ns.length).all λj=>match ns[j]? with
  |some (some k)=> !bn.contains k&&(List.range ns.length).all λi=>i==j|| !(ns[i]?==some (some k))
  |_=>true
theorem Jl {ns:List (Option Nat)} {bn:List Nat} (h:okN ns bn=true) {j k:Nat} (hj:ns[j]?=some (some k)):k∉bn∧∀i,ns[i]?=some (some k)→i=j:=by
 have hjl:j <ns.length:=(AT4.1 hj).1;have:=AUI.1 h j (AUR.2 hjl);rw[hj]at this;simp only[AT1,AUw,AUI,AVJ,beq_iff_eq]at this;refine⟨λhm=>?_,λi hi=>?_⟩
 ·have h1:=this.1;simp at h1;exact h1 hm
 ·have hil:i <ns.length:=(AT4.1 hi).1;rcases this.2 i (AUR.2 hil)with h2|h2
  ·exact h2
  ·rw[hi]at h2;simp at h2
theorem EnvD.step {ns cs:List (Option Nat)} {bn:List Nat} {vs bv:Nat→D} {d:Nat→Bool} {e e1:Env} (hE:EnvD ns cs bn vs bv d e) (hok:okN ns bn=true) (i:Nat)
  (hnew:∀k:Nat,ns[i]?=some (some k)→AH e1 k=vs i) (hold:∀k:Nat,ns[i]?≠some (some k)→(∀j:Nat,cs[j]?=some (some i)→ns[j]?≠some (some k))→AH e1 k=AH e k):EnvD ns cs bn vs bv (did d i) e1:=by
 refine⟨λj k hj hd hc=>?_,λk hk=>?_⟩
 ·by_cases hji:j=i
  ·subst hji;exact hnew k hj
  ·have hdj:d j=true:=by simpa[did,hji]using hd
   rw[hold k (λhi=>hji ((Jl hok hi).2 j hj)) (λj' hj' hk'=>?_)]
   ·refine hE.1 j k hj hdj λc hcc=>?_;have:=hc c hcc;simp only[did,Bool.or_eq_false_iff]at this;exact this.2
   ·have hjj:j=j':=(Jl hok hk').2 j hj;subst hjj;have:=hc i hj';simp[did]at this
 ·rw[hold k (λhi=>(Jl hok hi).1 hk) (λj' _ hk'=>(Jl hok hk').1 hk)];exact hE.2 k hk
theorem EnvD.push {ns cs:List (Option Nat)} {bn:List Nat} {vs bv:Nat→D} {d:Nat→Bool} {e:Env} (hE:EnvD ns cs bn vs bv d e) (hok:okN ns bn=true) (i k:Nat) {v:D} (hi:ns[i]?=some (some k)) (hv:vs i=v):
  EnvD ns cs bn vs bv (did d i) ((k,v)::e):=by
 refine hE.step hok i (λk' hk'=>?_) (λk' hk' _=>?_)
 ·rw[hi]at hk';simp only[AT0]at hk';subst hk';show (if k=k then v else AH e k)=vs i;rw[if_pos rfl,hv]
 ·show (if k=k' then v else AH e k')=AH e k';rw[if_neg (λh=>hk' (by rw[hi,h]))]
theorem EnvD.pushC {ns cs:List (Option Nat)} {bn:List Nat} {vs bv:Nat→D} {d:Nat→Bool} {e:Env} (hE:EnvD ns cs bn vs bv d e) (hok:okN ns bn=true) (i k j m:Nat) {v:D} (hi:ns[i]?=some (some k)) (hv:vs i=v) (hj:cs[j]?=some (some i)) (hm:ns[j]?=some (some m)):
  EnvD ns cs bn vs bv (did d i) ((k,v)::(m,.any)::e):=by
 refine hE.step hok i (λk' hk'=>?_) (λk' hk' hc=>?_)
 ·rw[hi]at hk';simp only[AT0]at hk';subst hk';show (if k=k then v else _)=vs i;rw[if_pos rfl,hv]
 ·show (if k=k' then v else if m=k' then .any else AH e k')=AH e k';rw[if_neg (λh=>hk' (by rw[hi,h])),if_neg (λh=>hc j hj (by rw[hm,h]))]
theorem EnvD.last {ns cs:List (Option Nat)} {bn:List Nat} {vs bv:Nat→D} {d:Nat→Bool} {e:Env} (hE:EnvD ns cs bn vs bv d e) (hok:okN ns bn=true) (i j m:Nat) (hi:ns[i]?=some none) (hj:cs[j]?=some (some i)) (hm:ns[j]?=some (some m)):
  EnvD ns cs bn vs bv (did d i) ((m,.any)::e):=by
 refine hE.step hok i (λk' hk'=>?_) (λk' hk' hc=>?_)
 ·rw[hi]at hk';simp at hk'
 ·show (if m=k' then .any else AH e k')=AH e k';rw[if_neg (λh=>hc j hj (by rw[hm,h]))]
theorem BB {is:List GI} {i k:Nat} {pi:PI} {v:D} {se:Env} {sh:List Row} (hx:is.getD i default=⟨none,.p k pi⟩) (hv:pi.val se sh=some v):BD P GL (is.getD i default) ⟨se,sh⟩ ⟨(k,v)::se,sh⟩:=by
 rw[hx];refine .inl ?_;show (pi.val se sh).map (λx=>(⟨(k,x)::se,sh⟩:St))=_;rw[hv];rfl
theorem CG {is:List GI} {i:Nat} {ai:AI} {s s1:St} (hx:is.getD i default=⟨none,ai⟩) (hv:ai.step s=some s1):BD P GL (is.getD i default) s s1:=by
 rw[hx];exact .inl hv
theorem CH {is:List GI} {i k f:Nat} {args:List Opd} {r:D} {se:Env} {sh h':List Row} (hx:is.getD i default=⟨none,.callF (some k) (.c (.v (.func f []))) args⟩) (hF:FSp P GL f (As se args) sh [r] h'):
  BD P GL (is.getD i default) ⟨se,sh⟩ ⟨(k,r)::se,h'⟩:=by
 rw[hx];exact .inr (.inr (.inl ⟨some k,_,args,[r],h',.inl rfl,⟨f,[],rfl,by simpa using hF⟩,rfl⟩))
end
section
variable {P:Program} {GL:AX}
theorem uK {is:List GI} {clos:List (List Nat)} {n:Nat} {K:St→Prop} (I:List Nat→St→Prop)
  (hstep:∀rem i s,rem.Nodup→(∀j∈rem,j <n)→i∈rem→(∀j∈(clos[i]?).getD [],j∉rem)→(∀j <n,j∉rem→i∉(clos[j]?).getD [])→I rem s→Dc P GL (is.getD i default) (λs1=>I (rem.erase i) s1) s)
  (hfin:∀s,I [] s→K s):∀(k:Nat) (rem:List Nat) (s:St),rem.length=k→rem.Nodup→(∀j∈rem,j <n)→wu clos n rem→I rem s→LG P GL is clos K k rem s:=by
 intro k;induction k with
 |zero=>
  intro rem s hk _ _ _ hi;have:rem=[]:=AUg hk;subst this;exact hfin s hi
 |succ k ih=>
  intro rem s hk hnd hlt hd hi i him hdep;refine I7 (λs1 h1=>ih (rem.erase i) s1 ?_ (hnd.erase i) (λj hj=>hlt j (AVZ hj)) ?_ h1) (hstep rem i s hnd hlt him hdep (λj hj hjr hij=>hd j hj hjr i hij him) hi)
  ·rw[AWQ him];omega
  ·intro j hj hjr k2 hk2 hkr;have hk3:k2∈rem:=AVZ hkr;by_cases hji:j=i
   ·subst hji;exact hdep k2 hk2 hk3
   ·exact hd j hj (λhm=>hjr ((AWP hji).2 hm)) k2 hk2 hk3
theorem uL {is:List GI} {clos:List (List Nat)} {n:Nat} {K:St→Prop} (I:(Nat→Bool)→St→Prop)
  (hstep:∀d i s,i <n→d i=false→(∀j∈(clos[i]?).getD [],d j=true)→(∀j <n,i∈(clos[j]?).getD []→d j=false)→I d s→Dc P GL (is.getD i default) (λs1=>I (did d i) s1) s)
  (hfin:∀d s,(∀j <n,d j=true)→I d s→K s) {s:St} (h0:I (λj=>decide (n≤j)) s):LG P GL is clos K n (List.range n) s:=by
 refine uK (clos:=clos) (n:=n) (λrem s=>I (λj=>decide (j∉rem)) s) ?_ ?_ n (List.range n) s (by simp) AWR (λj hj=>AUR.1 hj) ?_ ?_
 ·intro rem i s hnd hlt hi hdep hup hI;have e:(λj=>decide (j∉rem.erase i))=did (λj=>decide (j∉rem)) i:=by
   funext j
   simp only[did,hnd.mem_erase_iff];by_cases h1:j=i<;>simp[h1]
  rw[e];exact hstep (λj=>decide (j∉rem)) i s (hlt i hi) (by simpa using hi) (λj hj=>by simpa using hdep j hj) (λj hj hij=>by
   have:j∈rem:=Classical.byContradiction λh=>hup j hj h hij;simpa using this) hI
 ·intro s hI;exact hfin _ s (λj _=>by simp) hI
 ·intro j hj hjr i hi;exact absurd (AUR.2 hj) hjr
 ·have e:(λj=>decide (j∉List.range n))=λj=>decide (n≤j):=by
   funext j;simp
  rw[e];exact h0
end
def Cg (pre:List V) (g:V) (b:Nat) (d:Nat→Bool):D:=
 if d 7 then (if d 6 then .own 84 4 (pre++[g]) else .pend b 84 4 pre) else if d 0 then .v (.list pre) else .own 84 4 pre
structure I64 (H:List Row) (r6 r8:Nat) (pre:List V) (op n:Int) (ins kids:V) (d:Nat→Bool) (s:St):Prop where
 ex:∃b,s.h=H.set r6 (.cells [Cg pre (.agg [.int .i64 op,.int .i64 n,ins,kids]) b d])∧(d 4=true→d 7=false→AH s.e 26=if d 6 then .own 84 4 (pre++[.agg [.int .i64 op,.int .i64 n,ins,kids]]) else .pend b 84 4 pre)∧
  (d 7=true→d 6=false→AH s.e 26= .pptr b 0 pre.length)∧(d 5=true→AH s.e 27= .pptr b 4 pre.length)
 e6:AH s.e 6= .ref r6 0
 e8:AH s.e 8= .ref r8 0
 e23:d 1=true→AH s.e 23= .agg [.v (.int .i64 op),.v (.int .i64 n),.v ins,.v kids]
 e22:d 0=true→d 4=false→AH s.e 22= .own 84 4 pre
 e24:d 2=true→AH s.e 24= .v (.int .i64 pre.length)
 e25:d 3=true→AH s.e 25= .own 84 4 [.agg [.int .i64 0,.int .i64 0,.list [],.list []]]
set_option maxHeartbeats 4000000 in
theorem r64 (H:List Row) (r6 r8:Nat) (hne:r6≠r8) (hl:r6 <H.length) (pre:List V) (hpre:pre.length≤2^20) (op n:Int) (ins kids:V)
  (h6:H[r6]?=some (.cells [.own 84 4 pre])) (h8:H[r8]?=some (.cells [.v (.int .i64 op),.v (.int .i64 n),.v ins,.v kids])) (K:St→Prop)
  (hK:∀e,K ⟨e,H.set r6 (.cells [.own 84 4 (pre++[.agg [.int .i64 op,.int .i64 n,ins,kids]])])⟩) (e:Env) (f6:AH e 6= .ref r6 0) (f8:AH e 8= .ref r8 0):
  LG Tryz.prog GLx E7 [[],[],[0],[],[0,1,2,3],[0,1,2,3,4],[0,1,2,3,4,5],[0,1,2,3,4]] K 8 (List.range 8) ⟨e,H⟩:=by
 have hroom:Ae (pre.length+1) 64=true:=by simp[Ae];omega
 refine uL (I64 H r6 r8 pre op n ins kids) ?_ ?_ ?_
 ·rintro d i ⟨se,sh⟩ hi hdi hdep hup ⟨⟨b,hh,e26,e26',e27⟩,e6,e8,e23,e22,e24,e25⟩;simp only at hh e26 e26' e27 e6 e8 e23 e22 e24 e25;subst hh;have hg8:∀X,(H.set r6 X)[r8]?=some (.cells [.v (.int .i64 op),.v (.int .i64 n),.v ins,.v kids]):=λX=>by rw[AUJ hne];exact h8
  have hg6:∀X,(H.set r6 X)[r6]?=some X:=λX=>AUY hl;have hcases:i=0∨i=1∨i=2∨i=3∨i=4∨i=5∨i=6∨i=7:=by omega
  rcases hcases with rfl|rfl|rfl|rfl|rfl|rfl|rfl|rfl
  ·have d4:=hup 4 (by decide) (by simp);have d7:=hup 7 (by decide) (by simp);have d5:=hup 5 (by decide) (by simp);simp[Dc,E7,e6,hg6,Cg,hdi,d7];refine⟨⟨b,?_,?_,?_,?_⟩,?_,?_,?_,?_,?_,?_⟩<;>simp_all [did,Cg]
  ·simp[Dc,E7,e8,hg8];refine⟨⟨b,?_,?_,?_,?_⟩,?_,?_,?_,?_,?_,?_⟩<;>simp_all [did,Cg]
  ·have d0:=hdep 0 (by simp);have d4:=hup 4 (by decide) (by simp);have h22:=e22 d0 d4;simp[Dc,E7,h22];refine⟨⟨b,?_,?_,?_,?_⟩,?_,?_,?_,?_,?_,?_⟩<;>simp_all [did,Cg]
  ·have d4:=hup 4 (by decide) (by simp);simp[Dc,E7];refine⟨⟨b,?_,?_,?_,?_⟩,?_,?_,?_,?_,?_,?_⟩<;>simp_all [did,Cg]
  ·have d0:=hdep 0 (by simp);have d3:=hdep 3 (by simp);have d5:=hup 5 (by decide) (by simp);have d6:=hup 6 (by decide) (by simp);have d7:=hup 7 (by decide) (by simp);have h22:=e22 d0 hdi;have h25:=e25 d3;simp[Dc,E7,h22,h25,EN,hroom];intro b';refine⟨⟨b',?_,?_,?_,?_⟩,?_,?_,?_,?_,?_,?_⟩<;>simp_all [did,Cg]
  ·have d4:=hdep 4 (by simp);have d2:=hdep 2 (by simp);have d6:=hup 6 (by decide) (by simp);have h24:=e24 d2;cases d7:d 7 with
   |true=>
    have h26:=e26' d7 d6;simp[Dc,E7,h24,h26];refine⟨⟨b,?_,?_,?_,?_⟩,?_,?_,?_,?_,?_,?_⟩<;>simp_all [did,Cg]
   |false=>
    have h26:=e26 d4 d7;rw[d6]at h26;simp at h26;simp[Dc,E7,h24,h26];refine⟨⟨b,?_,?_,?_,?_⟩,?_,?_,?_,?_,?_,?_⟩<;>simp_all [did,Cg]
  ·have d4:=hdep 4 (by simp);have d1:=hdep 1 (by simp);have d5:=hdep 5 (by simp);have h23:=e23 d1;have h27:=e27 d5;cases d7:d 7 with
   |true=>
    have h26:=e26' d7 hdi;simp[Dc,E7,h23,h26,h27,e6,hg6,Cg,d7,hdi,D.vs?,D.v?,V.cells];refine⟨⟨b,?_,?_,?_,?_⟩,?_,?_,?_,?_,?_,?_⟩<;>simp_all [did,Cg]
   |false=>
    have h26:=e26 d4 d7;rw[hdi]at h26;simp at h26;simp[Dc,E7,h23,h26,h27,D.vs?,D.v?,V.cells];refine⟨⟨b,?_,?_,?_,?_⟩,?_,?_,?_,?_,?_,?_⟩<;>simp_all [did,Cg]
  ·have d4:=hdep 4 (by simp);have h26:=e26 d4 hdi;cases d6:d 6 with
   |true=>
    rw[d6]at h26;simp at h26;simp[Dc,E7,h26,e6,hg6,Cg,hdi];refine⟨⟨b,?_,?_,?_,?_⟩,?_,?_,?_,?_,?_,?_⟩<;>simp_all [did,Cg]
   |false=>
    rw[d6]at h26;simp at h26;simp[Dc,E7,h26,e6,hg6,Cg,hdi];refine⟨⟨b,?_,?_,?_,?_⟩,?_,?_,?_,?_,?_,?_⟩<;>simp_all [did,Cg]
 ·rintro d ⟨se,sh⟩ hd ⟨⟨b,hh,_⟩,_⟩;simp only at hh;subst hh;have h7:=hd 7 (by decide);have h6':=hd 6 (by decide);simp only[Cg,h7,h6',if_true];exact hK se
 ·refine⟨⟨0,?_,?_,?_,?_⟩,f6,f8,?_,?_,?_,?_⟩<;>simp[Cg]
  obtain⟨hl2,hg⟩:=AT4.1 h6;rw[←hg];exact(AWc hl2).symm
section
variable (h:List Row) (C B:Row) (e0:Env)
def X64 (h:List Row) (C B:Row) (e0:Env) (own:List V) (t:Tag):List Row:=h++[C,.cells [.own 84 4 own],B,An Tryz.prog GLx t e0 [21] T8 T7]
set_option maxHeartbeats 4000000 in
theorem y64 (h6:AH e0 6= .ref (h.length+1) 0) (pre:List F) (hpre:pre.length≤2^20) (g:F) (J:List Row):
  YSp Tryz.prog GLx (h.length+3) [.v g.V] (X64 h C B e0 (pre.map F.V) .ready++J) true (X64 h C B e0 ((pre++[g]).map F.V) .ready++(J++[.cells g.cells])):=by
 refine Cn (e0:=e0) (ps:=[21]) (asg:=T8) (body:=T7) (by simp[X64]) rfl ?_;obtain⟨op,n,ins,kids⟩:=g;have hr:=λ(H:List Row) (r8:Nat) (hne:h.length+1≠r8) (hl:h.length+1 <H.length) (hx:H[h.length+1]?=some (.cells [.own 84 4 (pre.map F.V)])) (h8:H[r8]?=some (.cells [.v (.int .i64 op),.v (.int .i64 n),.v (.list (ins.map Ivl.V)),.v (.list (kids.map F.V))])) K hK e f6 f8=>
  r64 H (h.length+1) r8 hne hl (pre.map F.V) (by simpa using hpre) op n (.list (ins.map Ivl.V)) (.list (kids.map F.V)) hx h8 K hK e f6 f8
 simp only[F.cells,F.op,F.n,F.ins,F.kids,F.V_eq,X64,Fo,T8,T7,AA,AG,AAi];simp[h6,AN];rw[uH];refine hr _ (h.length+(J.length+4)) (by omega) (by simp) (by simp) (by simp) _ ?_ _ rfl rfl;intro e;simp[CN,F.V_eq]
end
theorem ARM (H:List Row) (a:F) (a14:Nat) (h14:H[a14]?=some (.cells a.cells)) (bl res:List F) (hb:∀b∈bl,(mkA a b).ok∧BM (mkA a b)=0) (hlen:res.length+bl.length≤64) (d1 d6 d37 d38 d39 d62 d63 d64:D) (J:List Row) (Q:AExit→St→Prop)
  (hQ:∀J' e,AH e 1=d1→AH e 6=d6→AH e 7= .own 84 4 ((res++bl.map (mkA a)).map F.V)→AH e 37=d37→AH e 38=d38→AH e 39=d39→AH e 62=d62→AH e 63=d63→AH e 64=d64→Q (.exit 6) ⟨e,H++J'⟩):
  awp Tryz.prog GLx (.loop ZV) Q ⟨[(1,d1),(6,d6),(7,.own 84 4 (res.map F.V)),(14,.ref a14 0),(37,d37),(38,d38),(39,d39),(62,d62),(63,d63),(64,d64),(68,.v (.list (bl.map F.V))),(69,.v (.int .i64 bl.length)),(70,.v (.int .i64 (0:Nat)))],H++J⟩:=by
 refine Aa bl.length (λk s=>∃J',s=⟨[(1,d1),(6,d6),(7,.own 84 4 ((res++(bl.take k).map (mkA a)).map F.V)),(14,.ref a14 0),(37,d37),(38,d38),(39,d39),(62,d62),(63,d63),(64,d64),(68,.v (.list (bl.map F.V))),(69,.v (.int .i64 bl.length)),(70,.v (.int .i64 k))],H++J'⟩) ⟨J,by simp⟩ ?_;rintro k s hk ⟨J',rfl⟩;have h14':=λZ=>AO Z h14;simp only[ZV,AB,AA,AG,AE,ZO];by_cases hkl:k <bl.length
 ·obtain⟨b,hbk⟩:∃b,bl[k]?=some b:=⟨_,AT2 hkl⟩;obtain⟨hmok,hmz⟩:=hb b (AT3 hbk);have w1:IntKind.i64.wrap ((k:Int)+1)=k+1:=AJ;have htk:bl.take (k+1)=bl.take k++[b]:=by rw[AUP,hbk];rfl
  have q1:=AJr a;have q2:=AJr b;have q3:=AQ2 [Bb a,Bb b] (by simp) (by
   have hsz:(mkA a b).size≤1000:=by
    unfold BM at hmz;split at hmz
    ·cases hmz
    ·omega
   unfold mkA at hsz;rw[F.size_eq]at hsz;have:=F.kids_len (Bb a++Bb b);simp at this ⊢;simp at hsz;omega)
  have q4:=(p66 (mkA a b) hmok).fsp;rw[hmz]at q4;rw[htk];have hrl:((bl.take k).map (mkA a)).length≤k:=by rw[AUM,AUT];omega
  rw[AUZ (f:=mkA a)];generalize (bl.take k).map (mkA a)=R at*;have hroom:Ae (res.length+R.length+1) 64=true:=by simp[Ae];omega
  simp only[mkA]at q4;simp only[AUD,AVe,mkA];have hfl:[Bb a,Bb b].flatten=Bb a++Bb b:=by simp
  rw[hfl]at q3;generalize Bb a=pa at*;generalize Bb b=pb at*;obtain⟨ao,an,ai,ak⟩:=a;obtain⟨bo,bn,bi,bk⟩:=b;simp only[F.V_eq,F.cells,F.op,F.n,F.ins,F.kids]at*;simp at q3 q4 h14';simp;rw[if_pos (by omega),AD];simp only[AA,ZN];simp[hbk,F.V_eq,AN];simp only[AW,ZM];simp[h14'];refine⟨_,_,⟨rfl,rfl⟩,_,q1,?_⟩;simp;refine⟨_,_,⟨rfl,rfl⟩,_,q2,?_⟩;simp;refine⟨_,_,⟨rfl,rfl⟩,_,q3,?_⟩;simp[AN];simp only[AA,ZL];simp;refine⟨_,_,q4 _,?_⟩;simp[AD,AA,ZK,hroom,ZJ,w1,hkl,AN]
 ·have hk2:k=bl.length:=by omega
  subst hk2;simp;rw[AM];refine hQ _ _ ?_ ?_ ?_ ?_ ?_ ?_ ?_ ?_ ?_<;>simp
theorem ARN (H:List Row) (r6:Nat) (al bl res:List F) (h6:H[r6]?=some (.cells [.own 84 4 (bl.map F.V)])) (hb:∀a∈al,∀b∈bl,(mkA a b).ok∧BM (mkA a b)=0) (hlen:res.length+al.length*bl.length≤64) (haln:al.length≤2^20) (d1 d37 d38 d39:D) (J:List Row) (Q:AExit→St→Prop)
  (hQ:∀J' e,AH e 1=d1→AH e 6= .ref r6 0→AH e 7= .own 84 4 ((res++al.flatMap λa=>bl.map (mkA a)).map F.V)→AH e 37=d37→AH e 38=d38→AH e 39=d39→Q (.exit 4) ⟨e,H++J'⟩):
  awp Tryz.prog GLx (.loop ZW) Q ⟨[(1,d1),(6,.ref r6 0),(7,.own 84 4 (res.map F.V)),(37,d37),(38,d38),(39,d39),(62,.v (.list (al.map F.V))),(63,.v (.int .i64 al.length)),(64,.v (.int .i64 (0:Nat)))],H++J⟩:=by
 obtain⟨U,hU⟩:∃U:Nat→List F,∀k,U k=res++(al.take k).flatMap λa=>bl.map (mkA a):=⟨_,λ_=>rfl⟩;have hU0:U 0=res:=by rw[hU];simp
 have hUn:U al.length=res++al.flatMap λa=>bl.map (mkA a):=by rw[hU,AUb]
 have hUs:∀k a,al[k]?=some a→U (k+1)=U k++bl.map (mkA a):=by
  intro k a h;rw[hU,hU,AUP,h];simp
 have hUl:∀k,k≤al.length→(U k).length=res.length+k*bl.length:=by
  intro k hk;have:∀l:List F,(l.flatMap λa=>bl.map (mkA a)).length=l.length*bl.length:=by
   intro l;induction l with
   |nil=>simp
   |cons x l ih=>rw[AUN,AT5,ih,AUM,AUO,AVV];omega
  rw[hU,AT5,this,AUT,AVG hk]
 rw[←hUn]at hQ;refine Aa al.length (λk s=>∃J',s.h=H++J'∧AH s.e 1=d1∧AH s.e 6= .ref r6 0∧AH s.e 7= .own 84 4 ((U k).map F.V)∧AH s.e 37=d37∧AH s.e 38=d38∧AH s.e 39=d39∧AH s.e 62= .v (.list (al.map F.V))∧AH s.e 63= .v (.int .i64 al.length)∧AH s.e 64= .v (.int .i64 k)) ⟨J,rfl,rfl,rfl,by simp[hU0],rfl,rfl,rfl,rfl,rfl,rfl⟩ ?_;rintro k ⟨se,sh⟩ hk ⟨J',rfl,f1,f6,f7,f37,f38,f39,f62,f63,f64⟩;simp only at f1 f6 f7 f37 f38 f39 f62 f63 f64;have h6':=λZ=>AO Z h6;simp only[ZW,AB,AA,AG,AE,ZR];simp[f1,f6,f7,f37,f38,f39,f62,f63,f64];by_cases hkl:k <al.length
 ·obtain⟨a,hak⟩:∃a,al[k]?=some a:=⟨_,AT2 hkl⟩;have w1:IntKind.i64.wrap ((k:Int)+1)=k+1:=AJ;have hrl:=hUl k (by omega);have hm:(k+1)*bl.length≤al.length*bl.length:=AVS _ hkl;rw[AVV]at hm;have hc:=λH2 a14 h14 d6 d62 d63 d64 J Q=>ARM H2 a a14 h14 bl (U k) (hb a (AT3 hak)) (by rw[hrl];omega) d1 d6 d37 d38 d39 d62 d63 d64 J Q;rw[hUs k a hak];generalize U k=R at*;have hc2:=hc (H++J'++[.cells a.cells]) (H.length+J'.length) (by
   simp) (.ref r6 0) (.v (.list (al.map F.V))) (.v (.int .i64 al.length)) (.v (.int .i64 k)) []
  obtain⟨ao,an,ai,ak⟩:=a;simp only[F.V_eq,F.cells,F.op,F.n,F.ins,F.kids]at*;rw[if_pos (by omega),AD];simp only[AA,ZQ];simp[hak,F.V_eq,AN];simp only[AA,ZP];simp[h6'];simp at hc2;refine hc2 _ ?_;intro J2 e g1 g6 g7 g37 g38 g39 g62 g63 g64;simp[AA,ZI,g1,g6,g7,g37,g38,g39,g62,g63,g64,w1,hkl]
 ·have hk2:k=al.length:=by omega
  subst hk2;rw[if_neg (by omega),AM];refine hQ _ _ ?_ ?_ ?_ ?_ ?_ ?_<;>simp[f1,f6,f7,f37,f38,f39]
theorem yB (h:List Row) (C B:Row) (e0:Env) (h6:AH e0 6= .ref (h.length+1) 0):∀(l pre:List F),pre.length+l.length≤2^20→
  RunY Tryz.prog GLx (h.length+3) (l.map F.V) (X64 h C B e0 (pre.map F.V) .ready) true (X64 h C B e0 ((pre++l).map F.V) .ready)
 |[],pre,_=>⟨rfl,by rw[AUq]⟩
 |g::l,pre,hn=>by
  have hn':pre.length+(l.length+1)≤2^20:=hn;refine⟨true,X64 h C B e0 ((pre++[g]).map F.V) .ready,by simp[X64],λJ=>⟨[.cells g.cells],y64 h C B e0 h6 pre (by omega) g J⟩,?_⟩;have:=yB h C B e0 h6 l (pre++[g]) (by rw[AT5];simp;omega);rw[AUB]at this;exact this
theorem APA (k:Nat) (acc:List (List F)):CQ false [0] (.int .i64 k) (Dl 0 (acc.map λl=>V.list (l.map F.V)))=some (if k <acc.length then some k else none):=by
 rw[HF false];simp
theorem ARO (H:List Row) (r6 mx:Nat) (acc:List (List F)) (hmx:H[mx]?=some (Dv (acc.map λl=>V.list (l.map F.V)))) (refs:List Int) (hrefs:∀r∈refs,0≤r∧r <acc.length) (hrn:refs.length≤8) (bl:List F) (h6:H[r6]?=some (.cells [.own 84 4 (bl.map F.V)]))
  (hb:∀r∈refs,∀a∈(acc[r.toNat]?).getD [],∀b∈bl,(mkA a b).ok∧BM (mkA a b)=0) (U:Nat→List F) (hU:∀k,U k=(refs.take k).flatMap λr=>((acc[r.toNat]?).getD []).flatMap λa=>bl.map (mkA a)) (hlen:∀k,k≤refs.length→(U k).length≤64)
  (haln:∀r∈refs,((acc[r.toNat]?).getD []).length≤64) (hbl:bl.length≤64) (J:List Row) (Q:AExit→St→Prop)
  (hQ:∀J' e,AH e 7= .own 84 4 ((U refs.length).map F.V)→Q (.exit 2) ⟨e,H++J'⟩):
  awp Tryz.prog GLx (.loop ZX) Q ⟨[(1,.mref mx),(6,.ref r6 0),(7,.own 84 4 []),(37,.v (AL .i64 refs)),(38,.v (.int .i64 refs.length)),(39,.v (.int .i64 (0:Nat)))],H++J⟩:=by
 have hU0:U 0=[]:=by rw[hU];simp
 have hUs:∀k r,refs[k]?=some r→U (k+1)=U k++((acc[r.toNat]?).getD []).flatMap λa=>bl.map (mkA a):=by
  intro k r h;rw[hU,hU,AUP,h];simp
 refine Aa refs.length (λk s=>∃J',s.h=H++J'∧AH s.e 1= .mref mx∧AH s.e 6= .ref r6 0∧AH s.e 7= .own 84 4 ((U k).map F.V)∧AH s.e 37= .v (AL .i64 refs)∧AH s.e 38= .v (.int .i64 refs.length)∧AH s.e 39= .v (.int .i64 k)) ⟨J,rfl,rfl,rfl,by simp[hU0],rfl,rfl,rfl⟩ ?_;rintro k ⟨se,sh⟩ hk ⟨J',rfl,f1,f6,f7,f37,f38,f39⟩;simp only at f1 f6 f7 f37 f38 f39;have h6':=λZ=>AO Z h6;have hmx':∀Z,(H++Z)[mx]?=some (.map (Dl 0 (acc.map λl=>V.list (l.map F.V))) (List.range (acc.map λl=>V.list (l.map F.V)).length) (acc.map λl=>V.list (l.map F.V)).length):=λZ=>AO Z hmx;simp only[ZX,AB,AA,AG,AE,AAf];simp[f1,f6,f7,f37,f38,f39,AL];by_cases hkl:k <refs.length
 ·obtain⟨r,hr⟩:∃r,refs[k]?=some r:=⟨_,AT2 hkl⟩;have hrm:=AT3 hr;have hrr:=hrefs r hrm;have w1:IntKind.i64.wrap ((k:Int)+1)=k+1:=AJ;obtain⟨j,rfl⟩:∃j:Nat,r=j:=⟨r.toNat,by omega⟩;obtain⟨al,hal⟩:∃al,acc[j]?=some al:=⟨_,AT2 (by omega)⟩;have hgd:(acc[((j:Int)).toNat]?).getD []=al:=by simp[hal]
  have hls:=hlen (k+1) hkl;have hbb:=hb _ hrm;have haa:=haln _ hrm;rw[hUs k _ hr]at hls ⊢;rw[hgd]at hls hbb haa ⊢;have hf:CQ false [0] (.int .i64 j) (Dl 0 (acc.map λl=>V.list (l.map F.V)))=some (some j):=by rw[APA,if_pos (by omega)]
  have hgv:(Dl 0 (acc.map λl=>V.list (l.map F.V)))[j]?=some (.int .i64 j,.list (al.map F.V)):=by
   have:=GJ (acc.map λl=>V.list (l.map F.V)) 0 j (.list (al.map F.V)) (by simp[hal]);simpa using this
  have hfl:((al.flatMap λa=>bl.map (mkA a))).length=al.length*bl.length:=by
   clear hls hbb haa hal hgd hgv;induction al with
   |nil=>simp
   |cons x l ih=>rw[AUN,AT5,ih,AUM,AUO,AVV];omega
  rw[AT5,hfl]at hls;have hc:=λd37 d38 d39 J Q=>ARN H r6 al bl (U k) h6 hbb hls (by omega) (.mref mx) d37 d38 d39 J Q;generalize U k=R at*;rw[if_pos (by omega),AD];simp only[AA,AAe];simp[hr];simp only[AA,ZU];simp[hmx',BL,V.eqL,V.eq1,hf,hgv,C5];have hmb:al.length*bl.length≤64:=by omega
  have w2:IntKind.i64.wrap ((al.length:Int)*bl.length)=((al.length*bl.length:Nat):Int):=by
   rw[←Int.natCast_mul];exact AJ
  have w3:IntKind.i64.wrap ((R.length:Int)+((al.length*bl.length:Nat):Int))=((R.length+al.length*bl.length:Nat):Int):=by
   rw[←AU7];exact AJ
  have hgt:¬(64 <R.length+al.length*bl.length):=by omega
  simp only[AA,ZT];generalize al.length*bl.length=m at*;simp[h6',w2,w3];rw[if_neg (by omega),AD];simp only[AA,ZS];simp;simp at hc;refine hc _ _ _ _ _ ?_;intro J2 e g1 g6 g7 g37 g38 g39;simp[AA,ZH,g1,g6,g7,g37,g38,g39,w1,hkl]
 ·have hk2:k=refs.length:=by omega
  subst hk2;rw[if_neg (by omega),AM];exact hQ _ _ (by simp[f7])
theorem p64 (h:List Row) (hl:Low h) (c:Clm) (hok:c.body.ok) (htl:c.body.tops.length≤64) (mx:Nat) (acc:List (List F)) (hmx:h[mx]?=some (Dv (acc.map λl=>V.list (l.map F.V)))) (hrefs:∀r∈c.refs,0≤r∧r <acc.length) (hrn:c.refs.length≤8)
  (hb:∀r∈c.refs,∀a∈(acc[r.toNat]?).getD [],∀b∈c.body.tops,(mkA a b).ok∧BM (mkA a b)=0) (hlen:∀k,k≤c.refs.length→((c.refs.take k).flatMap λr=>((acc[r.toNat]?).getD []).flatMap λa=>c.body.tops.map (mkA a)).length≤64)
  (haln:∀r∈c.refs,((acc[r.toNat]?).getD []).length≤64):
  FX 64 [.v c.V,.mref mx] h [if c.refs=[] then .v (.list ((D1 acc c).map F.V)) else .own 84 4 ((D1 acc c).map F.V),.v (.bool true)] h:=by
 have hd:∀d∈[if c.refs=[] then D.v (.list ((D1 acc c).map F.V)) else .own 84 4 ((D1 acc c).map F.V),.v (.bool true)],D.lt h.length d=true:=by
  intro d hd;simp only[AT7,AUE,or_false]at hd;rcases hd with rfl|rfl
  ·split<;>rfl
  ·rfl
 refine Ai k64 rfl (AT6 _) hl hd ?_;obtain⟨U,hU⟩:∃U:Nat→List F,∀k,U k=(c.refs.take k).flatMap λr=>((acc[r.toNat]?).getD []).flatMap λa=>c.body.tops.map (mkA a):=⟨_,λ_=>rfl⟩;have hUn:U c.refs.length=D1 acc c∨c.refs=[]:=by
  by_cases h0:c.refs=[]
  ·exact .inr h0
  ·left;rw[hU,AUb];unfold D1;rw[if_neg h0]
 have hlo:=λ(H:List Row) r6 hm6 h6 J Q=>ARO H r6 mx acc hm6 c.refs hrefs hrn c.body.tops h6 hb U hU (λk hk=>by rw[hU];exact hlen k hk) haln htl J Q;have q139:=λZ=>AQ3 c.body (h++Z);obtain⟨refs,body⟩:=c;simp only at*;generalize hT:body.tops=T at*;have hmx':=λZ=>AO Z hmx;simp only[c64,AB,AA,AG,AE,AAl,AS];simp[Clm.V];simp only[AA,AAk];simp;simp only[AA,AAj];simp;have hbv:body.V= .agg [.int .i64 body.op,.int .i64 body.n,.list (body.ins.map Ivl.V),.list (body.kids.map F.V)]:=by obtain⟨a,b,c,d⟩:=body;exact F.V_eq ..
 have q:=q139 [.cells [.v (AL .i64 refs),.v (.int .i64 body.op),.v (.int .i64 body.n),.v (.list (body.ins.map Ivl.V)),.v (.list (body.kids.map F.V))],.cells [.own 84 4 []]];rw[hbv]at q;refine⟨_,_,q,?_⟩;simp;obtain⟨e0,he0⟩:∃e0,e0=cpE [(1,D.mref mx),(2,.ref h.length 0),(6,.ref (h.length+1) 0),(7,.own 84 4 []),(20,.func 242 [.ref (h.length+2) 0])]:=⟨_,rfl⟩;obtain⟨C,hC⟩:∃C,C=Row.cells [.v (AL .i64 refs),.v (.int .i64 body.op),.v (.int .i64 body.n),.v (.list (body.ins.map Ivl.V)),.v (.list (body.kids.map F.V))]:=⟨_,rfl⟩;have hrun:=yB h C (.cells body.cells) e0 (by rw[he0];simp[cpE]) T [] (by simp;omega);rw[←hT]at hrun;obtain⟨JJ,hp⟩:=AQB body hok (h.length+3) (h.length+2) _ true _ hrun (by simp[X64]);refine DZ (h.length+3) (by simp) 242 [.ref (h.length+2) 0] [] _ _ .ready rfl ?_ hp ?_ ?_
 ·rw[hC,he0];simp[X64]
 ·rw[he0];simp[X64]
 ·have hloop:=λJ Q=>hlo (h++[C,.cells [.own 84 4 (T.map F.V)],.cells body.cells,.dead]) (h.length+1) (AO _ hmx) (by simp) J Q;rw[hT];simp[Bo,X64];simp at hloop;rw[hC]at hloop ⊢;by_cases hr0:refs=[]
  ·subst hr0;simp only[AA,ZF];simp[AL];simp only[AW,AAh];simp[AF,AFp,D1,hT,htl]
   try omega
  ·have hrp:¬(refs.length:Int)=0:=by cases refs with|nil=>exact absurd rfl hr0|cons=>simp;omega
   have hUn':=hUn.resolve_right hr0;simp only[AA,ZF];simp[AL,hr0,AD];simp only[AA,AAg];simp;simp[AL]at hloop;refine hloop _ _ ?_;intro J' e g7;rw[hUn']at g7;simp[AA,ZG,g7,AF,AFp]
structure FP (s d:Nat) (f:F):Prop where
 nd:∀g∈f.nodes,g.ok1∧Aw g=true∧okC 6 g=true
 sz:f.size≤s
 dp:f.depth≤d
theorem FP.mono {s d s' d':Nat} {f:F} (h:FP s d f) (hs:s≤s') (hd:d≤d'):FP s' d' f:=⟨h.nd,AUk h.sz hs,AUk h.dp hd⟩
theorem FP.ok {s d:Nat} {f:F} (h:FP s d f) (hs:s≤96) (hd:d≤8):f.ok∧BM f=0∧f.nodes.all (okC 6)=true:=by
 have h1:=h.sz;have h2:=h.dp;refine⟨⟨λg hg=>(h.nd g hg).1,by omega⟩,?_,AUI.2 λg hg=>(h.nd g hg).2.2⟩;unfold BM;rw[if_neg (by omega),if_pos (AUI.2 λg hg=>(h.nd g hg).2.1)]
theorem KZ {d:Nat}:∀ {l:List F},(∀k∈l,k.depth≤d)→F.depths l≤d
 |[],_=>by simp[F.depths]
 |k::ks,h=>by
  have h1:=h k (by simp);have h2:=KZ (l:=ks) λx hx=>h x (by simp[hx]);simp only[F.depths];omega
theorem FP.node {op:Int} (ho:op=4∨op=5) {kids:List F} {s d n:Nat} (hk:∀k∈kids,FP n d k) (hs:(kids.map F.size).sum≤s):FP (1+s) (d+1) (.mk op 0 [] kids):=by
 refine⟨λg hg=>?_,by rw[F.size_eq];omega,?_⟩
 ·rw[F.nodes_eq]at hg;rcases AT7.1 hg with rfl|hg
  ·refine⟨⟨?_,by simp[F.n,i64],by simp[F.ins],by simp[F.ins]⟩,?_,?_⟩
   ·rcases ho with rfl|rfl<;>simp[F.op,i64]
   ·rcases ho with rfl|rfl<;>simp[Aw,F.op,F.n,F.ins]
   ·rcases ho with rfl|rfl<;>simp[okC,F.op]
  ·obtain⟨k,hk1,hk2⟩:=AUp.1 hg;exact(hk k hk1).nd g hk2
 ·have:=KZ (l:=kids) λk hkk=>(hk k hkk).dp;simp only[F.depth];omega
structure CP (c:Clm):Prop where
 lr:c.refs.length≤2
 body:FP 7 3 c.body
 nt:c.body.tops.length≤2
 tops:∀p∈c.body.tops,FP 3 2 p
def sB:Nat→Nat
 |0=>7
 |k+1=>9+2*sB k
theorem S5 {a b:Nat} (h:a≤b):sB a≤sB b:=by
 induction h with
 |refl=>exact AT6 _
 |step _ ih=>simp only[sB];omega
theorem XC {α:Type} (f:α→Nat) (n:Nat):∀l:List α,(∀x∈l,f x≤n)→(l.map f).sum≤n*l.length
 |[],_=>by simp
 |x::l,h=>by
  have h1:=h x (by simp);have h2:=XC f n l λy hy=>h y (by simp[hy]);simp only[AUD,AVE,AUO,AVv];omega
theorem XV (T:List Clm) (hc:∀c∈T,CP c) (hlow:∀(k:Nat) (c:Clm),T[k]?=some c→∀r∈c.refs,0≤r∧r <(k:Int)):∀(k:Nat) (c:Clm),T[k]?=some c→FP (sB k) (3+2*k) (DI (A7 (T.take k)) c):=by
 intro k;induction k using Nat.strongRecOn with
 |_ k ih=>
  intro c hk;have hcp:=hc c (AT3 hk);unfold DI;by_cases h0:c.refs=[]
  ·rw[if_pos h0];exact hcp.body.mono (S5 (AU6 k)) (by omega)
  ·rw[if_neg h0];have hkl:k <T.length:=(AT4.1 hk).1;have hk0:0 <k:=by
    obtain⟨r,hr⟩:=List.exists_mem_of_ne_nil _ h0;have:=hlow k c hk r hr;omega
   obtain⟨j,rfl⟩:∃j,k=j+1:=⟨k-1,by omega⟩;have hm:∀r∈c.refs,FP (sB j) (3+2*j) (((A7 (T.take (j+1)))[r.toNat]?).getD c.body):=by
    intro r hr;have hrl:=hlow _ c hk r hr;have hrk:r.toNat <j+1:=by omega
    obtain⟨c',hc'⟩:∃c',T[r.toNat]?=some c':=⟨_,AT2 (by omega)⟩;have h1:=ih r.toNat hrk c' hc';have h2:(A7 (T.take (j+1)))[r.toNat]?=some (DI (A7 (T.take r.toNat)) c'):=by
     have e1:(A7 (T.take (r.toNat+1)))[r.toNat]?=some (DI (A7 (T.take r.toNat)) c'):=by
      rw[HG T hc'];have:(A7 (T.take r.toNat)).length=r.toNat:=by rw[DH,AUT];omega
      rw[AUa (by omega),this,AV7];rfl
     rw[EJ T (r.toNat+1) (by omega),AUV,if_pos (by omega)]at e1;rw[EJ T (j+1) (by omega),AUV,if_pos hrk];exact e1
    rw[h2,AUH];exact h1.mono (S5 (by omega)) (by omega)
   have hor:FP (1+sB j*c.refs.length) (3+2*j+1) (.mk 5 0 [] (c.refs.map λr=>((A7 (T.take (j+1)))[r.toNat]?).getD c.body)):=by
    refine FP.node (.inr rfl) (n:=sB j) (λf hf=>?_) ?_
    ·obtain⟨r,hr,rfl⟩:=AT9.1 hf;exact hm r hr
    ·have:=XC F.size (sB j) (c.refs.map λr=>((A7 (T.take (j+1)))[r.toNat]?).getD c.body) λf hf=>by
      obtain⟨r,hr,rfl⟩:=AT9.1 hf;exact(hm r hr).sz
     rw[AUM]at this;exact this
   have hl2:sB j*c.refs.length≤sB j*2:=AWB _ hcp.lr;have h7:7≤sB j:=S5 (AU6 j);have hand:=FP.node (op:=4) (.inl rfl) (kids:=[c.body,.mk 5 0 [] (c.refs.map λr=>((A7 (T.take (j+1)))[r.toNat]?).getD c.body)]) (s:=8+sB j*2) (d:=3+2*j+1) (n:=7+(1+sB j*2)) (λf hf=>by
    simp only[AT7,AUE,or_false]at hf;rcases hf with rfl|rfl
    ·exact hcp.body.mono (by omega) (by omega)
    ·exact hor.mono (by omega) (AT6 _)) (by
    have h1:=hcp.body.sz;have h2:=hor.sz;simp only[AUD,AVe,AVE,List.sum_nil];omega)
   refine hand.mono ?_ (by omega);simp only[sB];omega
theorem LW (T:List Clm) (hn:T.length≤3) (hc:∀c∈T,CP c) (hlow:∀(k:Nat) (c:Clm),T[k]?=some c→∀r∈c.refs,0≤r∧r <(k:Int)):∀f∈A7 T,f.ok∧BM f=0∧f.nodes.all (okC 6)=true:=by
 intro f hf;obtain⟨k,hk⟩:=AVW.1 hf;have hkl:k <T.length:=by rw[←DH T];exact(AT4.1 hk).1
 obtain⟨c,hck⟩:∃c,T[k]?=some c:=⟨_,AT2 hkl⟩;have h1:=XV T hc hlow k c hck;have h2:(A7 T)[k]?=some (DI (A7 (T.take k)) c):=by
  have e1:(A7 (T.take (k+1)))[k]?=some (DI (A7 (T.take k)) c):=by
   rw[HG T hck];have:(A7 (T.take k)).length=k:=by rw[DH,AUT];omega
   rw[AUa (by omega),this,AV7];rfl
  rw[EJ T (k+1) (by omega),AUV,if_pos (by omega)]at e1;exact e1
 rw[hk]at h2;simp only[AT0]at h2;subst h2;have hs:sB k≤sB 2:=S5 (by omega);have e2:sB 2=55:=by decide
 exact h1.ok (by omega) (by omega)
theorem GU (l:List Clm):(Bv l).length=l.length:=by
 have:∀(l:List Clm) (acc:List (List F)),(l.foldl (λacc c=>acc++[D1 acc c]) acc).length=acc.length+l.length:=by
  intro l;induction l with
  |nil=>simp
  |cons c l ih=>intro acc;rw[AVQ,ih];simp;omega
 have h:=this l [];rw[AVA,AU9]at h;exact h
theorem L0 (l:List Clm) {k:Nat} {c:Clm} (h:l[k]?=some c):Bv (l.take (k+1))=Bv (l.take k)++[D1 (Bv (l.take k)) c]:=by
 rw[AUP,h];unfold Bv;rw[AVf];rfl
theorem Kz (l:List Clm):∀k,k≤l.length→Bv (l.take k)=(Bv l).take k:=by
 have:∀(l m:List Clm),(Bv (l++m)).take l.length=Bv l:=by
  intro l m;unfold Bv;rw[AVf];have:∀(m:List Clm) (acc:List (List F)),∃t,m.foldl (λacc c=>acc++[D1 acc c]) acc=acc++t:=by
   intro m;induction m with
   |nil=>intro acc;exact⟨[],by simp⟩
   |cons c m ih=>
    intro acc;obtain⟨t,ht⟩:=ih (acc++[D1 acc c]);exact⟨[D1 acc c]++t,by rw[AVQ,ht];simp⟩
  obtain⟨t,ht⟩:=this m (l.foldl (λacc c=>acc++[D1 acc c]) []);rw[ht];have:=GU l;unfold Bv at this;rw[AV3 (by omega),AUc (by omega)]
 intro k hk;have h:=this (l.take k) (l.drop k);rw[AUr]at h;rw[←h,AUT,AVG hk]
theorem Nr (l:List Clm) {k:Nat} {c:Clm} (h:l[k]?=some c) (n:Nat) (hn:k <n) (hl:n≤l.length):(Bv (l.take n))[k]?=some (D1 (Bv (l.take k)) c):=by
 have hkl:k <l.length:=(AT4.1 h).1;have e1:(Bv (l.take (k+1)))[k]?=some (D1 (Bv (l.take k)) c):=by
  rw[L0 l h];have:(Bv (l.take k)).length=k:=by rw[GU,AUT];omega
  rw[AUa (by omega),this,AV7];rfl
 rw[Kz l (k+1) (by omega),AUV,if_pos (by omega)]at e1;rw[Kz l n hl,AUV,if_pos hn];exact e1
structure AP (s:Nat) (f:F):Prop where
 parts:∀p∈Bb f,FP s 2 p
 sum:((Bb f).map F.size).sum≤s
 all:FP (s+1) 3 f
theorem AP.mono {s s':Nat} {f:F} (h:AP s f) (hs:s≤s'):AP s' f:=⟨λp hp=>(h.parts p hp).mono hs (AT6 _),AUk h.sum hs,h.all.mono (by omega) (AT6 _)⟩
theorem AP.piece {f:F} (h:FP 3 2 f):AP 3 f:=by
 have hall:FP 4 3 f:=h.mono (by decide) (by decide);obtain⟨op,n,ins,kids⟩:=f;have hsz:=h.sz;have hdp:=h.dp;rw[F.size_eq]at hsz;by_cases h4:op=4
 ·have hp:Bb (.mk op n ins kids)=kids:=by simp[Bb,F.op,F.kids,h4]
  refine⟨λp hpm=>?_,?_,hall⟩
  ·rw[hp]at hpm;have h1:=F.kid_size hpm;refine⟨λg hg=>h.nd g ?_,by omega,?_⟩
   ·rw[F.nodes_eq];exact AVX _ (AUp.2 ⟨p,hpm,hg⟩)
   ·have:∀(l:List F),p∈l→p.depth≤F.depths l:=by
     intro l;induction l with
     |nil=>intro h;cases h
     |cons x l ih=>
      intro h;simp only[F.depths];rcases AT7.1 h with rfl|h
      ·omega
      ·have:=ih h;omega
    have:=this kids hpm;simp only[F.depth]at hdp;omega
  ·rw[hp];omega
 ·have hp:Bb (.mk op n ins kids)=[.mk op n ins kids]:=by simp[Bb,F.op,h4]
  refine⟨λp hpm=>?_,?_,hall⟩
  ·rw[hp]at hpm;rw[AUC.1 hpm];exact h
  ·rw[hp];simp only[AUD,AVe,AVE,List.sum_nil,F.size_eq];omega
theorem AP.mkA {s s':Nat} {a b:F} (ha:AP s a) (hb:AP s' b):AP (s+s') (mkA a b):=by
 have hp:Bb (Go.Va.mkA a b)=Bb a++Bb b:=by simp[Go.Va.mkA,Bb,F.op,F.kids]
 have hparts:∀p∈Bb a++Bb b,FP (s+s') 2 p:=by
  intro p hpm;rcases AUK.1 hpm with h|h
  ·exact(ha.parts p h).mono (by omega) (AT6 _)
  ·exact(hb.parts p h).mono (by omega) (AT6 _)
 have hsum:((Bb a++Bb b).map F.size).sum≤s+s':=by
  rw[AUZ,List.sum_append];have:=ha.sum;have:=hb.sum;omega
 refine⟨by rw[hp];exact hparts,by rw[hp];exact hsum,?_⟩;have:=FP.node (op:=4) (.inl rfl) hparts hsum;exact this.mono (by omega) (by omega)
def lB:Nat→Nat
 |0=>2
 |k+1=>4*lB k
theorem TN {a b:Nat} (h:a≤b):lB a≤lB b:=by
 induction h with
 |refl=>exact AT6 _
 |step _ ih=>simp only[lB];omega
theorem GF {α β:Type} (f:α→List β) (n:Nat):∀l:List α,(∀x∈l,(f x).length≤n)→(l.flatMap f).length≤n*l.length
 |[],_=>by simp
 |x::l,h=>by
  have h1:=h x (by simp);have h2:=GF f n l λy hy=>h y (by simp[hy]);simp only[AUN,AT5,AUO,AVv];omega
theorem Jy (T:List Clm) (hc:∀c∈T,CP c) (hlow:∀(k:Nat) (c:Clm),T[k]?=some c→∀r∈c.refs,0≤r∧r <(k:Int)):∀(k:Nat) (c:Clm),T[k]?=some c→
  (D1 (Bv (T.take k)) c).length≤lB k∧∀f∈D1 (Bv (T.take k)) c,AP (3*(k+1)) f:=by
 intro k;induction k using Nat.strongRecOn with
 |_ k ih=>
  intro c hk;have hcp:=hc c (AT3 hk);unfold D1;by_cases h0:c.refs=[]
  ·rw[if_pos h0];refine⟨AUk hcp.nt (TN (AU6 k)),λf hf=>(AP.piece (hcp.tops f hf)).mono (by omega)⟩
  ·rw[if_neg h0];have hkl:k <T.length:=(AT4.1 hk).1;have hk0:0 <k:=by
    obtain⟨r,hr⟩:=List.exists_mem_of_ne_nil _ h0;have:=hlow k c hk r hr;omega
   obtain⟨j,rfl⟩:∃j,k=j+1:=⟨k-1,by omega⟩;have hm:∀r∈c.refs,∃L,((Bv (T.take (j+1)))[r.toNat]?).getD []=L∧L.length≤lB j∧∀f∈L,AP (3*(j+1)) f:=by
    intro r hr;have hrl:=hlow _ c hk r hr;have hrk:r.toNat <j+1:=by omega
    obtain⟨c',hc'⟩:∃c',T[r.toNat]?=some c':=⟨_,AT2 (by omega)⟩;obtain⟨h1,h1'⟩:=ih r.toNat hrk c' hc';have h2:=Nr T hc' (j+1) hrk (by omega);refine⟨_,by rw[h2,AUH],AUk h1 (TN (by omega)),λf hf=>(h1' f hf).mono (by omega)⟩
   constructor
   ·have h1:=GF (λr=>((((Bv (T.take (j+1)))[r.toNat]?).getD []).flatMap λa=>c.body.tops.map λb=>Go.Va.mkA a b)) (2*lB j) c.refs (λr hr=>by
     obtain⟨L,hL,hl,_⟩:=hm r hr;rw[hL];have:=GF (λa=>c.body.tops.map λb=>Go.Va.mkA a b) 2 L (λa _=>by rw[AUM];exact hcp.nt);have h3:2*L.length≤2*lB j:=AWB _ hl;omega)
    have h2:2*lB j*c.refs.length≤2*lB j*2:=AWB _ hcp.lr;simp only[lB];omega
   ·intro f hf;obtain⟨r,hr,hf⟩:=AUp.1 hf;obtain⟨L,hL,_,hap⟩:=hm r hr;rw[hL]at hf;obtain⟨a,ha,hf⟩:=AUp.1 hf;obtain⟨b,hb,rfl⟩:=AT9.1 hf;exact(AP.mkA (hap a ha) (AP.piece (hcp.tops b hb))).mono (by omega)
theorem uN (T:List Clm) (hn:T.length≤3) (hc:∀c∈T,CP c) (hlow:∀(k:Nat) (c:Clm),T[k]?=some c→∀r∈c.refs,0≤r∧r <(k:Int)) (k:Nat) (hk:k <T.length):K1 6 (CS T k):=by
 obtain⟨c,hck⟩:∃c,T[k]?=some c:=⟨_,AT2 hk⟩;obtain⟨h1,h2⟩:=Jy T hc hlow k c hck;have h3:=Nr T hck T.length hk (AT6 _);rw[AUb]at h3;have e:CS T k=D1 (Bv (T.take k)) c:=by unfold CS;rw[AVs,h3];rfl
 rw[e];have hl:lB k≤lB 2:=TN (by omega);have e2:lB 2=32:=by decide
 refine⟨by omega,λf hf=>?_⟩;exact(h2 f hf).all.ok (by omega) (by omega)
structure AltOK (T:List Clm):Prop where
 len:T.length≤32
 body:∀c∈T,c.body.ok∧c.body.tops.length≤64∧c.refs.length≤8
 low:∀(k:Nat) (c:Clm),T[k]?=some c→∀r∈c.refs,0≤r∧r <(k:Int)
 mka:∀(k:Nat) (c:Clm),T[k]?=some c→(∀r∈c.refs,∀a∈((Bv (T.take k))[r.toNat]?).getD [],∀b∈c.body.tops,(mkA a b).ok∧BM (mkA a b)=0)
 pre:∀(k:Nat) (c:Clm),T[k]?=some c→∀j,j≤c.refs.length→((c.refs.take j).flatMap λr=>(((Bv (T.take k))[r.toNat]?).getD []).flatMap λa=>c.body.tops.map (mkA a)).length≤64
 one:∀(k:Nat) (c:Clm),T[k]?=some c→∀r∈c.refs,(((Bv (T.take k))[r.toNat]?).getD []).length≤64
def Fx (l:List F):V:= .list (l.map F.V)
theorem l24 (T:List Clm) (hT:AltOK T) (h:List Row) (hl:Low h) (d1:V) (m:Nat) (hm:m≤T.length) (Q:AExit→St→Prop)
  (hQ:∀e J,AH e 1= .v d1→AH e 7= .mref h.length→Q (.exit 0) ⟨e,h++Dv ((Bv (T.take m)).map Fx)::J⟩):
  awp Tryz.prog GLx (.loop jW) Q ⟨[(1,.v d1),(7,.mref h.length),(24,.v (.list ((T.take m).map Clm.V))),(25,.v (.int .i64 m)),(26,.v (.int .i64 (0:Nat)))],h++[Dv []]⟩:=by
 refine Aa m (λk s=>∃J,Lows J∧s=⟨[(1,.v d1),(7,.mref h.length),(24,.v (.list ((T.take m).map Clm.V))),(25,.v (.int .i64 m)),(26,.v (.int .i64 k))],h++Dv ((Bv (T.take k)).map Fx)::J⟩) ⟨[],Lows.nil,by simp[Bv]⟩ ?_;rintro k s hk ⟨J,hJ,rfl⟩;simp only[jW,AB,AA,AG,AE,ACp];simp;by_cases hkl:k <m
 ·obtain⟨c,hc⟩:∃c,T[k]?=some c:=⟨_,AT2 (by omega)⟩;have hcm:=AT3 hc;have hTl:=hT.len;have w1:IntKind.i64.wrap ((k:Int)+1)=k+1:=AJ;have hat:=L0 T hc;have hal:(Bv (T.take k)).length=k:=by rw[GU,AUT];omega
  have hcv:((T.take m).map Clm.V)[k]?=some c.V:=by simp[AUV,hkl,hc]
  obtain⟨hb1,hb2,hb3⟩:=hT.body c hcm;have hlc:∀n,Row.low n (.cells [.v (AL .i64 c.refs),.v (.int .i64 c.body.op),.v (.int .i64 c.body.n),.v (.list (c.body.ins.map Ivl.V)),.v (.list (c.body.kids.map F.V))])=true:=λn=>rfl;have q:=p64 (h++Dv ((Bv (T.take k)).map Fx)::(J++[.cells [.v (AL .i64 c.refs),.v (.int .i64 c.body.op),.v (.int .i64 c.body.n),.v (.list (c.body.ins.map Ivl.V)),.v (.list (c.body.kids.map F.V))]]))
   (hl.lows (by
    intro row hrow n;rcases AT7.1 hrow with rfl|hrow
    ·rfl
    ·exact(hJ.app hlc) row hrow n)) c hb1 hb2 h.length (Bv (T.take k)) (by simp;rfl) (λr hr=>by have:=hT.low k c hc r hr;omega) hb3 (hT.mka k c hc) (hT.pre k c hc) (hT.one k c hc)
  have hput:=OK ((Bv (T.take k)).map Fx) (Fx (D1 (Bv (T.take k)) c));rw[AUM,hal,←List.map_singleton (f:=Fx),←AUZ]at hput;have hmf:CQ false [0] (.int .i64 k) (Dl 0 ((Bv (T.take k)).map Fx))=some none:=by
   rw[HF false,if_neg (by simp;omega)]
  have hmr:Dv ((Bv (T.take k)).map Fx)= .map (Dl 0 ((Bv (T.take k)).map Fx)) (List.range k) k:=by unfold Dv;rw[AUM,hal]
  rw[hat,←hput];rw[hmr]at q ⊢;generalize D1 (Bv (T.take k)) c=R at*;generalize Dl 0 ((Bv (T.take k)).map Fx)=E at*;have hRV:Fx R= .list (R.map F.V):=rfl;rw[hRV];obtain⟨refs,body⟩:=c;simp only[Clm.V,AL]at*;simp at hcv;rw[if_pos (by omega),AD];simp only[AA,ACo];simp[hcv,AN];simp only[AA,ACn];simp;by_cases hr0:refs=[]
  ·rw[if_pos hr0]at q;refine⟨_,_,q,?_⟩;simp[jS,AA,RI,BL,V.eqL,V.eq1,hmf,RH,w1,hkl];exact hJ.app hlc
  ·rw[if_neg hr0]at q;refine⟨_,_,q,?_⟩;simp[jS,AA,RI,BL,V.eqL,V.eq1,hmf,RH,w1,hkl];exact hJ.app hlc
 ·have hk2:k=m:=by omega
  subst hk2;rw[if_neg (by omega),AM];exact hQ _ _ rfl rfl
theorem p24 (T:List Clm) (hT:AltOK T) (hok:∀c∈T,c.ok) (hz:CR T=0) (i:Nat) (hi:i <T.length):PX 24 [.list (T.map Clm.V),.int .i64 i] [.list ((CS T i).map F.V),.int .i64 0]:=by
 refine HE (args:=[_,_]) (rets:=[_,_]) ?_;refine Ai k24 rfl (AT6 _) (by intro row h;cases h) (by simp[D.lt]) ?_;have hlen:=hT.len;have q1:=(p63 T hok (by omega) hz i hi).fsp;have hloop:=l24 T hT [] (by intro row h;cases h) (.int .i64 i) (i+1) hi;have w1:IntKind.i64.wrap ((i:Int)+1)=i+1:=AJ;have e1:((i:Int)+1).toNat=i+1:=by omega
 have hho:=Xh T;obtain⟨f,hf⟩:∃f,(Bv T)[i]?=some f:=⟨_,AT2 (by rw[GU];exact hi)⟩;have hf2:(Bv (T.take (i+1)))[i]?=some f:=by
  rw[Kz T (i+1) hi,AUV,if_pos (by omega)];exact hf
 have hfa:CS T i=f:=by unfold CS;simp[hf]
 have hn:((Bv (T.take (i+1))).map Fx).length=i+1:=by rw[AUM,GU,AUT];omega
 have hm:CQ false [0] (.int .i64 i) (Dl 0 ((Bv (T.take (i+1))).map Fx))=some (some i):=by
  rw[HF false,if_pos (by rw[hn];omega)];simp
 have hg:(Dl 0 ((Bv (T.take (i+1))).map Fx))[i]?=some (.int .i64 i,.list (f.map F.V)):=by
  have:=GJ ((Bv (T.take (i+1))).map Fx) 0 i (Fx f) (by simp[hf2]);simpa[Fx]using this
 rw[hfa];unfold Dv at hloop;generalize (Bv (T.take (i+1))).map Fx=es at*;simp only[c24,AB,AA,AG,AE,ACu,AS];simp;simp only[AA,ACt];simp;refine⟨_,_,q1 _,?_⟩;simp[ACs,AD,ACr];simp only[AA,ACq];simp[w1,e1,hho,show 0≤(i:Int)+1 by omega,show i+1≤T.length from hi];simp[Dl]at hloop;refine hloop _ ?_;intro e J g1 g7;simp[jV,g1,g7,BL,V.eqL,V.eq1,hm,hg,C5,jU,AD,AA,jT,AF,ANY,D.one?]
theorem AJ3 (k:Int):okC 6 (CY k)=true:=by
 have h:=AVt (IntKind.i64.wrap (k.tdiv 8)) (b:=6) (by decide);simp only[okC,CY,F.op,F.n,decide_true,AUh,AUw,decide_eq_false_iff_not];exact decide_eq_false (Int.not_le.2 h)
theorem L8 {f:F} (h:f.op≠1):okC 6 f=true:=by simp[okC,h]
structure P3 (f:F):Prop where
 sz:f.size≤3
 dp:f.depth≤2
 cl:∀g∈f.nodes,okC 6 g=true
 op:f.op≠5
theorem LP (n:Int):P3 (Cw n):=by
 unfold Cw;generalize Aq n 1048576=k;have hC:okC 6 (Cp k)=true:=L8 (by simp[Cp,F.op]);have hA:=AJ3 k;have nA:(CY k).nodes=[CY k]:=by unfold CY;rw[F.nodes_eq];simp
 have nC:(Cp k).nodes=[Cp k]:=by unfold Cp;rw[F.nodes_eq];simp
 have sA:(CY k).size=1:=by unfold CY;rw[F.size_eq];simp
 have sC:(Cp k).size=1:=by unfold Cp;rw[F.size_eq];simp
 have dA:(CY k).depth=1:=by simp[CY,F.depth,F.depths]
 have dC:(Cp k).depth=1:=by simp[Cp,F.depth,F.depths]
 simp only
 repeat' split
 ·exact⟨by omega,by omega,by rw[nA];simpa using hA,by simp[CY,F.op]⟩
 ·exact⟨by omega,by omega,by rw[nC];simpa using hC,by simp[Cp,F.op]⟩
 ·refine⟨by rw[F.size_eq];simp[sA,sC],by simp[F.depth,F.depths,dA,dC],?_,by simp[F.op]⟩;rw[F.nodes_eq];simp only[AUN,AVw,nA,nC];intro g hg;simp at hg;rcases hg with rfl|rfl|rfl
  ·exact L8 (by simp[F.op])
  ·exact hC
  ·exact hA
 ·refine⟨by rw[F.size_eq];simp[sA],by simp[F.depth,F.depths,dA],?_,by simp[F.op]⟩;rw[F.nodes_eq];simp only[AUN,AVw,nA];intro g hg;simp at hg;rcases hg with rfl|rfl
  ·exact L8 (by simp[F.op])
  ·exact hA
 ·refine⟨by rw[F.size_eq];simp[sA],by simp[F.depth,F.depths,dA],?_,by simp[F.op]⟩;rw[F.nodes_eq];simp only[AUN,AVw,nA];intro g hg;simp at hg;rcases hg with rfl|rfl
  ·exact L8 (by simp[F.op])
  ·exact hA
theorem P3.tops {f:F} (h:P3 f):f.tops=[f]:=by
 have h5:=h.op;obtain⟨o,n,i,k⟩:=f;rw[F.tops_eq,if_neg (show ¬o=5 from h5)]
theorem P3.fp {f:F} (h:P3 f) (ho:∀g∈f.nodes,g.ok1) (hf:∀g∈f.nodes,Aw g=true):FP 3 2 f:=⟨λg hg=>⟨ho g hg,hf g hg,h.cl g hg⟩,h.sz,h.dp⟩
theorem Og {f:F} (h:BM f=0):∀g∈f.nodes,Aw g=true:=by
 unfold BM at h;split at h
 ·cases h
 ·split at h
  ·rename_i hall;exact AUI.1 hall
  ·cases h
theorem We (l:List Int) (i:Nat) (hi:i≤3) (hz:BM (Fc l i).body=0):CP (Fc l i):=by
 have ht:=GN l i hi;have hn:=Og hz;have ho:=λg hg=>(ht.body.one g hg).1;refine⟨ht.lr,?_,?_,?_⟩
 all_goals
  revert hn ho
  unfold Fc;generalize Ac l (2*i+1) 1000=k;generalize Ac l (2*i+2) 1048576=m;simp only;have p1:=LP m;have p2:=LP (IntKind.i64.wrap (k.tdiv 4));generalize Cw m=a at*;generalize Cw (IntKind.i64.wrap (k.tdiv 4))=b at*;split
  all_goals intro hn ho
 ·have ha:FP 3 2 a:=p1.fp (λg hg=>ho g (by rw[F.nodes_eq];simp[hg])) (λg hg=>hn g (by rw[F.nodes_eq];simp[hg]));have hb:FP 3 2 b:=p2.fp (λg hg=>ho g (by rw[F.nodes_eq];simp[hg])) (λg hg=>hn g (by rw[F.nodes_eq];simp[hg]));exact FP.node (s:=6) (.inr rfl) (kids:=[a,b]) (by
   intro x hx;simp at hx;rcases hx with rfl|rfl
   ·exact ha
   ·exact hb) (by have:=p1.sz;have:=p2.sz;simp;omega)
 ·exact(p1.fp ho hn).mono (by decide) (by decide)
 ·rw[F.tops_eq,if_pos rfl];simp[p1.tops,p2.tops]
 ·rw[p1.tops];simp
 ·rw[F.tops_eq,if_pos rfl];simp only[AUN,AVw,p1.tops,p2.tops];intro x hx;simp at hx;rcases hx with rfl|rfl
  ·exact p1.fp (λg hg=>ho g (by rw[F.nodes_eq];simp[hg])) (λg hg=>hn g (by rw[F.nodes_eq];simp[hg]))
  ·exact p2.fp (λg hg=>ho g (by rw[F.nodes_eq];simp[hg])) (λg hg=>hn g (by rw[F.nodes_eq];simp[hg]))
 ·rw[p1.tops];intro x hx;simp at hx;subst hx;exact p1.fp ho hn
theorem Ou {T:List Clm} (hz:CR T=0) {k:Nat} {c:Clm} (hk:T[k]?=some c):DS c.refs k=true∧BM c.body=0:=by
 unfold CR at hz;split at hz
 ·cases hz
 ·have hlt:=(AT4.1 hk).1;have h:=FS _ _ hz k (by omega) (by omega);unfold IA at h;rw[hk]at h;simp only[Kf]at h;split at h
  ·cases h
  ·split at h
   ·rename_i h2;exact⟨h2,h⟩
   ·cases h
theorem XL {l:List Int} {i:Int} (h:DS l i=true):∀r∈l,0≤r∧r <i:=by
 have hall:∀k <l.length,Ci l k <l.getD k 0∧l.getD k 0 <i:=by
  intro k hk;unfold DS at h;simp only[AUw,AVg,AUR]at h;have:=h k hk;simp only[CL,decide_eq_true_eq,not_or,Int.not_le]at this;exact this
 have hpos:∀k <l.length,0≤l.getD k 0:=by
  intro k;induction k with
  |zero=>intro hk;have:=(hall 0 hk).1;simp only[Ci]at this;omega
  |succ k ih=>intro hk;have h1:=(hall (k+1) hk).1;have h2:=ih (by omega);simp only[Ci]at h1;omega
 intro r hr;obtain⟨k,hk,rfl⟩:=List.getElem_of_mem hr;have h1:=hpos k hk;have h2:=(hall k hk).2;have e:l.getD k 0=l[k]:=by simp[List.getD,hk]
 rw[e]at h1 h2;exact⟨h1,h2⟩
structure CsP (T:List Clm):Prop where
 n:T.length≤3
 cp:∀c∈T,CP c
 low:∀(k:Nat) (c:Clm),T[k]?=some c→∀r∈c.refs,0≤r∧r <(k:Int)
 z:CR T=0
 tiny:∀c∈T,c.tiny
theorem Ov (l:List Int) (hz:CR (Bk l)=0):CsP (Bk l):=by
 have hn:=Ho l;have hlen:(Bk l).length=G2 l:=by unfold Bk;simp
 have hat:∀(k:Nat) (c:Clm),(Bk l)[k]?=some c→k <G2 l∧c=Fc l k:=by
  intro k c h;have hk:=(AT4.1 h).1;rw[hlen]at hk;unfold Bk at h;rw[AUG,AU4 hk]at h;simp only[AUU,AT0]at h;exact⟨hk,h.symm⟩
 refine⟨by omega,?_,λk c h=>XL (Ou hz h).1,hz,?_⟩
 ·intro c hc;obtain⟨k,hk⟩:=AVW.1 hc;obtain⟨h1,rfl⟩:=hat k c hk;exact We l k (by omega) (Ou hz hk).2
 ·intro c hc;obtain⟨k,hk⟩:=AVW.1 hc;obtain⟨h1,rfl⟩:=hat k c hk;exact GN l k (by omega)
theorem CsP.mean {T:List Clm} (h:CsP T):MeanOK T where
 len:=by have:=h.n;omega
 ok:=λc hc=>(h.tiny c hc).ok
 refs:=λc hc=>by have:=(h.cp c hc).lr;omega
 low:=h.low
 mean:=λf hf=>by have:=LW T h.n h.cp h.low f hf;exact⟨this.1,this.2.1⟩
theorem CsP.fine {r:Rgt} (h:CsP r.claims) (hb:r.bad.length≤2^40):r.fine 6:=⟨hb,h.mean,h.z,λf hf=>(LW r.claims h.n h.cp h.low f hf).2.2⟩
theorem CsP.alts {T:List Clm} (h:CsP T) (k:Nat) (hk:k <T.length):K1 6 (CS T k):=uN T h.n h.cp h.low k hk
theorem CsP.altOK {T:List Clm} (h:CsP T):AltOK T:=by
 have hk2:∀(k:Nat) (c:Clm),T[k]?=some c→k≤2:=λk c hk=>by
  have:=(AT4.1 hk).1;have:=h.n;omega
 have hlB:∀k,k≤2→lB k≤32:=λk hk=>by
  have:=TN hk;have e2:lB 2=32:=by decide
  omega
 refine⟨by have:=h.n;omega,λc hc=>?_,h.low,?_,?_,?_⟩
 ·have hcp:=h.cp c hc;exact⟨(hcp.body.ok (by decide) (by decide)).1,by have:=hcp.nt;omega,by have:=hcp.lr;omega⟩
 ·intro k c hk r hr a ha b hb;have h0:c.refs≠[]:=λe=>by rw[e]at hr;cases hr
  have hmem:mkA a b∈D1 (Bv (T.take k)) c:=by
   unfold D1;rw[if_neg h0];exact AUp.2 ⟨r,hr,AUp.2 ⟨a,ha,AT9.2 ⟨b,hb,rfl⟩⟩⟩
  have h2:=(Jy T h.cp h.low k c hk).2 _ hmem;have hkk:=hk2 k c hk;have:=h2.all.ok (by omega) (by omega);exact⟨this.1,this.2.1⟩
 ·intro k c hk j hj;by_cases h0:c.refs=[]
  ·simp[h0]
  ·have h1:=(Jy T h.cp h.low k c hk).1;have hkk:=hlB k (hk2 k c hk);have e:D1 (Bv (T.take k)) c=c.refs.flatMap λr=>(((Bv (T.take k))[r.toNat]?).getD []).flatMap λa=>c.body.tops.map λb=>mkA a b:=by
    unfold D1;rw[if_neg h0]
   rw[e]at h1;have hle:((c.refs.take j).flatMap λr=>(((Bv (T.take k))[r.toNat]?).getD []).flatMap λa=>c.body.tops.map (mkA a)).length≤(c.refs.flatMap λr=>(((Bv (T.take k))[r.toNat]?).getD []).flatMap λa=>c.body.tops.map λb=>mkA a b).length:=by
    conv=>rhs;rw[←AUr j c.refs,AVr,AT5]
    exact Nat.le_add_right _ _
   omega
 ·intro k c hk r hr;have hrl:=h.low k c hk r hr;have hkk:=hk2 k c hk;have hkl:=(AT4.1 hk).1;obtain⟨c',hc'⟩:∃c',T[r.toNat]?=some c':=⟨_,AT2 (by omega)⟩;have h2:=Nr T hc' k (by omega) (by omega);rw[h2,AUH];have h1:=(Jy T h.cp h.low r.toNat c' hc').1;have:=hlB r.toNat (by omega);omega
theorem AP5 {T:List Clm} (h:CsP T) (i:Nat) (hi:i <T.length):PX 24 [.list (T.map Clm.V),.int .i64 i] [.list ((CS T i).map F.V),.int .i64 0]:=
 p24 T h.altOK (λc hc=>(h.tiny c hc).ok) h.z i hi
theorem AJb {T:List Clm} (h:CsP T) (i:Nat) (hi:i <T.length):PX 274 [.list (T.map Clm.V),.int .i64 i] [(CJ T i).V,.int .i64 0]:=
 APu T i hi h.mean h.z
theorem Xn (p:Int) (hp:p <5) (i j:Nat) (hij:i <j) (hj:j <p.toNat):GG ((i+p).tmod 5)≠GG ((j+p).tmod 5):=by
 obtain⟨q,rfl⟩:∃q:Nat,p=q:=⟨p.toNat,by omega⟩;have hq:q <5:=by omega
 have hj':j <q:=by simpa using hj
 have:∀q:Nat,q <5→∀j:Nat,j <q→∀i:Nat,i <j→GG (((i:Int)+(q:Int)).tmod 5)≠GG (((j:Int)+(q:Int)).tmod 5):=by
  intro q hq j hj i hi;have h1:q=0∨q=1∨q=2∨q=3∨q=4:=by omega
  have h2:j=0∨j=1∨j=2∨j=3:=by omega
  have h3:i=0∨i=1∨i=2:=by omega
  rcases h1 with rfl|rfl|rfl|rfl|rfl<;>rcases h2 with rfl|rfl|rfl|rfl<;>rcases h3 with rfl|rfl|rfl<;>first|omega|decide
 exact this q hq j hj' i hij
theorem CD (l:List Int):(AQ l).Pairwise λa b=>a.file≠b.file:=by
 unfold AQ;refine List.Pairwise.filter _ ?_;rw[List.pairwise_map];have hb:=Dq l 0 5 (by decide);refine List.Pairwise.imp_of_mem ?_ (AVa (n:=(Ac l 0 5).toNat));intro i j hi hj hij;have h2:=AUR.1 hj;exact Xn (Ac l 0 5) hb.2 i j hij h2
theorem CW {l:List Int} {r:Rgt} (h:r∈AQ l):∃i,r=CX l i∧Au r=true:=by
 unfold AQ at h;obtain⟨h1,h2⟩:=AVd.1 h;obtain⟨i,_,rfl⟩:=AT9.1 h1;exact⟨i,rfl,h2⟩
theorem Of {r:Rgt} (h:Au r=true):CR r.claims=0:=by
 unfold Au at h;simp only[AT1,beq_iff_eq]at h;exact h.1.1.1.1.1.1.2
theorem DD {l:List Int} {r:Rgt} (h:r∈AQ l):CsP r.claims:=by
 obtain⟨i,rfl,hf⟩:=CW h;have hz:=Of hf;have e:∃m,(CX l i).claims=Bk m:=⟨_,rfl⟩;obtain⟨m,hm⟩:=e;rw[hm]at hz ⊢;exact Ov m hz
def Ee (d:D) (n:Nat) (l:List Rgt):List Row:=[(kmL l).row,(kmL l).row,(hmL l).row,.cells [.mref (n+1),.mref (n+2)],.cells [d,.mref n,.ref (n+3) 0]]
def PN (h:List Row) (d:D) (l:List Rgt) (H:List Row):Prop:=∃J,H=h++(Ee d h.length l++J)∧∀row∈J,∀n,row.low n=true
theorem uf (r:Rgt) (n:Nat):r.row.low n=true:=by simp[Rgt.row,Rgt.cs,Row.low,D.lts,D.lt]
theorem PN.low {h H:List Row} {d:D} {l:List Rgt} (hp:PN h d l H) (hd:D.lt h.length d=true) (hl:∀row∈h,row.low h.length=true):∀row∈H,row.low H.length=true:=by
 obtain⟨J,rfl,hJ⟩:=hp;have hlen:h.length+5≤(h++(Ee d h.length l++J)).length:=by simp[Ee]
 intro row hrow;rcases AUK.1 hrow with hrow|hrow
 ·exact Row.low_mono (by omega) (hl row hrow)
 rcases AUK.1 hrow with hrow|hrow
 ·refine Row.low_mono hlen ?_;simp only[Ee,AT7,AUE,or_false]at hrow;rcases hrow with rfl|rfl|rfl|rfl|rfl
  ·rfl
  ·rfl
  ·rfl
  ·simp[Row.low,D.lts,D.lt]
  ·simp[Row.low,D.lts,D.lt];exact Dz (by omega) d hd
 ·exact hJ row hrow _
theorem PN.get {h H:List Row} {d:D} {l:List Rgt} (hp:PN h d l H):H[h.length]?=some (kmL l).row∧H[h.length+1]?=some (kmL l).row∧H[h.length+2]?=some (hmL l).row∧
  H[h.length+3]?=some (.cells [.mref (h.length+1),.mref (h.length+2)])∧H[h.length+4]?=some (.cells [d,.mref h.length,.ref (h.length+3) 0]):=by
 obtain⟨J,rfl,hJ⟩:=hp;simp[Ee]
theorem PN.app {h H:List Row} {d:D} {l:List Rgt} (hp:PN h d l H) (r:Rgt):PN h d l (H++[r.row]):=by
 obtain⟨J,rfl,hJ⟩:=hp;refine⟨J++[r.row],by simp,λrow hrow n=>?_⟩;rcases AUK.1 hrow with hrow|hrow
 ·exact hJ row hrow n
 ·simp only[AUC]at hrow;subst hrow;exact uf r n
theorem PN.set {h H:List Row} {d:D} {l:List Rgt} (hp:PN h d l H) (r:Rgt):
  PN h d (l++[r]) (((H.set (h.length+1) ((kmL l).set r.file (Az r)).row).set (h.length+2) (HD 12 0 r.file (C7 r.file (Az r)) (hmL l)).row).set h.length ((kmL l).set r.file (Az r)).row):=by
 obtain⟨J,rfl,hJ⟩:=hp;refine⟨J,?_,hJ⟩;have e:∀(i:Nat) (x:Row) (t:List Row),(h++t).set (h.length+i) x=h++t.set i x:=by
  intro i x t;rw[AVp _ _ (by omega),Nat.add_sub_cancel_left]
 have e0:=λx t=>e 0 x t;simp only[AVR]at e0;rw[e,e,e0];simp[Ee,KR,OW]
def AIT:AC:=(.seq (.reg Ve [6,8,9,10,21,22,23,33]) (.cond (.t 33 false) (.seq (.reg rK [4,5]) .ret) .skip))
def AOu:AC:=(.seq (.regD SF [6,8,9,12,21,22,23] [[],[0],[0,1],[0,1,2],[],[4],[0,1,2,3,4,5],[0,1,2,3,4,5,6],[0,1,2,3,4,5,6,7],[0,1,2,3,4,5,6,7],[0,1,2,3,4,5,6,7,8],[0,1,2,3,4,5,6,7,8,9,10]]) (.seq (.reg NI [6,8,9,21,22,23,45]) (.cond (.t 45 false) (.seq (.reg SE [4,5]) .ret) .skip)))
def AOt:AC:=(.seq (.regD SD [6,8,9,13,21,22,23] [[],[0],[0,1],[0,1,2],[],[4],[],[0,1,2,3,4,5,6],[0,1,2,3,4,5,6,7]]) (.seq (.reg NH [6,8,9,13,21,22,23,55]) (.cond (.t 55 false) (.seq (.reg SC [4,5]) .ret) .skip)))
def AOs:AC:=(.regD SB [6,21,22,23] [[],[0],[0,1],[0,1,2],[],[4],[],[0,1,2,3,4,5,6]])
def AIS:AC:=(.seq (.reg rM [6,8,21,22,23]) (.seq (.reg rL [6,8,9,10,21,22,23]) (.seq AIT (.seq AOu (.seq AOt AOs)))))
theorem rP:rQ=(.seq (.reg rN [6,21,22,23,24]) (.seq (.cond (.t 24 false) .skip (.exit 0)) (.seq (.block 1 AIS) (.reg SA [6,21,22,23])))):=rfl
theorem b13 (h:List Row) (d:D) (hd:D.lt h.length d=true) (hl:∀row∈h,row.low h.length=true) (l:List Rgt) (k:Nat) (r:Rgt) (hr:r.ok) (hlen:(Az r).length≤2^39) (hB:∀x∈Az r,0≤x∧x <256) (hxk:l[k]?=some r) (hk:k≤l.length)
  (hE:∀j <k,FK l j=0) (H:List Row) (hp:PN h d (l.take k) H) (d22:D) (K:AExit→St→Prop)
  (hret:FK l k≠0→∀e H',AH e 4= .v .nilp→AH e 5= .v (.int .i64 (FK l k))→(∃J,H'=h++J)→K .ret ⟨e,H'⟩)
  (hok:FK l k=0→∀e H',AH e 6= .ref (h.length+4) 0→AH e 21= .v (.list (l.map Rgt.V))→AH e 22=d22→AH e 23= .v (.int .i64 k)→PN h d (l.take (k+1)) H'→K .normal ⟨e,H'⟩):
  ∀e,AH e 6= .ref (h.length+4) 0→AH e 21= .v (.list (l.map Rgt.V))→AH e 22=d22→AH e 23= .v (.int .i64 k)→awp Tryz.prog GLx AIS K ⟨e,H⟩:=by
 intro e f6 f21 f22 f23;have p1:=(p51 r hr).fsp;have hne:=MB hxk;have hpr:=hp.app r;have hrow:H++[.cells (r.cs.map D.v)]=H++[r.row]:=rfl;simp[Rgt.V,Rgt.cs,AL]at p1 hrow;unfold AIS;simp only[AB,AA,rM];simp[f6,f21,f22,f23,hxk,Rgt.V,Rgt.cs,AN,AL];rw[hrow];have g8:(H++[r.row])[H.length]?=some r.row:=by simp
 have hT:h.length+5≤H.length:=by obtain⟨J,rfl,-⟩:=hp;simp[Ee]
 generalize H.length=T at*;generalize H++[r.row]=H1 at*;have hJ:∃J,H1=h++J:=by obtain⟨J,hJ,-⟩:=hpr;exact⟨_,hJ⟩
 obtain⟨g0,g1,g2,g3,g4⟩:=hpr.get;simp[rL,g8,Rgt.row,Rgt.cs,AL];refine⟨_,_,p1 _,?_⟩;cases hf:Au r with
 |false=>
  rw[hf]at hne;simp at hne;simp[AIT,AB,AA,AE,Ve,rK,AF];exact hret (by rw[hne];decide) _ _ (by simp) (by simp[hne]) hJ
 |true=>
  rw[hf]at hne;simp at hne;have hmf:=Jn r.file (kmL (l.take k)).E;have hKE:=yL k hk hE;have g0':H1[h.length]?=some (.map ((kmL (l.take k)).E.map GK) (kmL (l.take k)).st (kmL (l.take k)).ck):=g0;simp[AIT,AB,AA,AE,Ve,AD];simp only[AOu,AB,AW,AA,AE,SF];simp[f6,f21,f22,f23,g4,g8,Rgt.row,Rgt.cs,g0',hmf,BL,V.eqL,V.eq1];cases hi:(kmL (l.take k)).E.findIdx? (λx=>x.1==r.file)with
  |some i=>
   have hil:i <(kmL (l.take k)).E.length:=(AVj.1 hi).1;have hany:(l.take k).any (λq=>q.file==r.file)=true:=by
    cases ha:(l.take k).any (λq=>q.file==r.file)with
    |true=>rfl
    |false=>
     rw[←GT,←hKE,hi]at ha;cases ha
   simp only[AWf,beq_iff_eq]at hany;rw[if_pos hany]at hne;simp[AT2 hil,C5,AA,NI,AB,AE,SE,AF];exact hret (by rw[hne];decide) _ _ (by simp) (by simp[hne]) hJ
  |none=>
   have hnone:=hi;rw[hKE,GT]at hnone;have hnany:¬ ∃x,x∈l.take k∧x.file=r.file:=by
    rintro⟨x,hx,hxf⟩;rw[AVg]at hnone;exact hnone x hx (by simpa using hxf)
   rw[if_neg hnany]at hne;simp[C5,AA,NI,AD];simp only[AOt,AB,AW,AA,AE,SD];simp[f6,f21,f22,f23,g4,g8,Rgt.row,Rgt.cs];have p2:=p52 H1 (h.length+3) (h.length+1) (h.length+2) _ _ g3 g1 g2 (by omega) (by omega) (by omega) (hpr.low hd hl) r.file (Az r) hB hlen;simp[AL]at p2;by_cases hz:IZ r.file (Az r)=0
   ·rw[hz]at hne p2;rw[if_pos rfl]at p2;have hset:=hpr.set r;obtain⟨H2,hH2⟩:∃H2,(H1.set (h.length+1) ((kmL (l.take k)).set r.file (Az r)).row).set (h.length+2) (HD 12 0 r.file (C7 r.file (Az r)) (hmL (l.take k))).row=H2:=⟨_,rfl⟩;rw[hH2]at p2 hset;have e4:H2[h.length+4]?=some (.cells [d,.mref h.length,.ref (h.length+3) 0]):=by rw[←hH2,AUJ (by omega),AUJ (by omega)];exact g4
    have e0:H2[h.length]?=some (.map ((kmL (l.take k)).E.map GK) (kmL (l.take k)).st (kmL (l.take k)).ck):=by rw[←hH2,AUJ (by omega),AUJ (by omega)];exact g0'
    have e8:H2[T]?=some r.row:=by rw[←hH2,AUJ (by omega),AUJ (by omega)];exact g8
    refine⟨_,_,p2,?_⟩;simp[NH,AD,AOs,AW,SB];simp[e4,e8,e0,Rgt.row,Rgt.cs,hmf,hi,BL,V.eqL,V.eq1];refine hok (by rw[hne]) _ _ (by simp) (by simp) (by simp) (by simp) ?_;rw[IY hxk];have hrn:=KM.row_new (Az r) hi;simp[AL,GK]at hrn;simpa[hrn]using hset
   ·rw[if_neg hz]at p2;refine⟨_,_,p2,?_⟩;simp[hz,NH,AB,AA,AE,SC,AF];exact hret (by rw[hne];exact hz) _ _ (by simp) (by simp[hne]) hJ
theorem H6 {m:Nat} {r:Rgt} (h:r.tiny m) (hm:m≤2^20):(Az r).length≤2^39:=by
 have h1:=h.lc;have h2:=h.ld;have h3:=h.lb;have h4:=h.lo;have h5:=h.ll;have e0:=Fa h.claims;have e1:=Am r.file;have e2:=Am r.state;have e3:=Am r.force;have e4:=DP (BP r.claims).length;have e5:=Am r.dates.length;have e6:=Dk FZ r.dates;have e7:=FY r.bad;have e8:=Am r.owners.length;have e9:=Dk FU r.owners;have e10:=Am r.lics.length;have e11:=Dk FW r.lics;simp only[Az,BN,AT5];omega
theorem Pt {m:Nat} {r:Rgt} (h:r.tiny m) (hm:m≤2^20):isB (Az r):=by
 have h1:=h.lc;have h2:=h.ld;have h3:=h.lb;have h4:=h.lo;have h5:=h.ll;have e0:=Fa h.claims;unfold Az;refine isB.app (isB.app (isB.app (isB.app (isB.app (isB.app (isB.app (isB.app (isB.app (isB.app ?_ ?_) ?_) ?_) ?_) ?_) ?_) ?_) ?_) ?_) ?_
 ·exact isB.encI h.file
 ·exact isB.encI h.state
 ·exact isB.encI h.force
 ·exact isB.encRaw (isB.encClms (λc hc=>(h.claims c hc).ok) (by omega) (by omega)) (by omega)
 ·exact isB.encI (by unfold i64;omega)
 ·exact isB.flat λx hx=>((isB.encI (h.dates x hx).1).app (isB.encI (h.dates x hx).2.1)).app (isB.encI (h.dates x hx).2.2.1) |>.app (isB.encI (h.dates x hx).2.2.2)
 ·exact isB.encInts h.bad (by omega)
 ·exact isB.encI (by unfold i64;omega)
 ·exact isB.flat λx hx=>((isB.encI (h.owners x hx).1).app (isB.encI (h.owners x hx).2.1)).app (isB.encI (h.owners x hx).2.2)
 ·exact isB.encI (by unfold i64;omega)
 ·exact isB.flat λx hx=>((isB.encI (h.lics x hx).1).app (isB.encI (h.lics x hx).2.1)).app (isB.encI (h.lics x hx).2.2.1) |>.app (isB.encI (h.lics x hx).2.2.2)
def WI (l:List Rgt):Int:=Eo (FK l) 0 l.length
theorem ui {l:List Rgt} {k:Nat} (hk:k <l.length) (h:∀j <k,FK l j=0) (hz:FK l k≠0):WI l=FK l k:=Gk _ _ k (AU6 k) (by omega) (λj _ hj=>h j hj) hz
theorem LO {l:List Rgt} (h:∀j <l.length,FK l j=0):WI l=0:=Ek _ _ λj _ hj=>h j (by omega)
theorem l13 (h:List Row) (d:D) (hd:D.lt h.length d=true) (hl:∀row∈h,row.low h.length=true) {m:Nat} (hm:m≤2^20) (l:List Rgt) (hok:∀r∈l,r.tiny m) (hn:l.length≤2^30) (K:AExit→St→Prop)
  (hret:∀k <l.length,(∀j <k,FK l j=0)→FK l k≠0→∀e H',AH e 4= .v .nilp→AH e 5= .v (.int .i64 (FK l k))→(∃J,H'=h++J)→K .ret ⟨e,H'⟩)
  (hend:(∀j <l.length,FK l j=0)→∀e H',AH e 6= .ref (h.length+4) 0→PN h d l H'→K (.exit 0) ⟨e,H'⟩):
  awp Tryz.prog GLx (.loop rQ) K ⟨[(6,.ref (h.length+4) 0),(21,.v (.list (l.map Rgt.V))),(22,.v (.int .i64 l.length)),(23,.v (.int .i64 0))],h++Ee d h.length []⟩:=by
 refine Aa l.length (λk s=>s.e=[(6,.ref (h.length+4) 0),(21,.v (.list (l.map Rgt.V))),(22,.v (.int .i64 l.length)),(23,.v (.int .i64 k))]∧(∀j <k,FK l j=0)∧PN h d (l.take k) s.h) ⟨by simp,λj hj=>by omega,[],by simp,by simp⟩ ?_;rintro k ⟨se,H⟩ hk ⟨he,hE,hp⟩;simp only at he hp;subst he;rw[rP];simp only[AB,AA,AG,AE,rN];simp;by_cases hlt:k <l.length
 ·obtain⟨r,hxk⟩:∃r,l[k]?=some r:=⟨_,AT2 hlt⟩;have hr:=hok r (AT3 hxk);have hw:IntKind.i64.wrap ((k:Int)+1)=k+1:=AJ;rw[if_pos (by omega),AD];refine b13 h d hd hl l k r (hr.ok hm) (H6 hr hm) (Pt hr hm) hxk hk hE H hp (.v (.int .i64 l.length)) _ ?_ ?_ _ (by simp) (by simp) (by simp) (by simp)
  ·intro hz e H' h4 h5 hJ;exact hret k hlt hE hz e H' h4 h5 hJ
  ·intro hz e H' f6 f21 f22 f23 hp';simp[SA,f6,f21,f22,f23,hw,hlt];refine⟨λj hj=>?_,hp'⟩;rcases AUS j k with h|h
   ·exact hE j h
   ·have:j=k:=by omega
    subst this;exact hz
 ·have:k=l.length:=by omega
  subst this;rw[if_neg (by omega),AM];simp;rw[AUb]at hp;exact hend hE _ _ (by simp) hp
theorem p13 (h:List Row) (c:Nat) (hc:c <h.length) (hl:∀row∈h,row.low h.length=true) {m:Nat} (hm:m≤2^20) (l:List Rgt) (hok:∀r∈l,r.tiny m) (hn:l.length≤2^30):
  FX 13 [.ref c 0,.v (.list (l.map Rgt.V))] h (if WI l=0 then [.ref (h.length+4) 0,.v (.int .i64 0)] else [.v .nilp,.v (.int .i64 (WI l))]) (if WI l=0 then h++Ee (.ref c 0) h.length l else h):=by
 have hd:D.lt h.length (.ref c 0)=true:=by simp[D.lt,hc]
 have q0:PN h (.ref c 0) l (h++(Ee (.ref c 0) h.length l++[])):=⟨[],rfl,by simp⟩;rw[AUq]at q0;have p50':=p50 (h++[KM.row ⟨[],[],0⟩]);refine Ai k13 rfl ?_ ?_ ?_ ?_
 ·split<;>simp
 ·split
  ·exact q0.low hd hl
  ·exact hl
 ·split
  ·simp[D.lt,Ee]
  ·simp[D.lt]
 simp only[c13,AB,AA,AG,AE,ADn,ADm,AS];simp[AD,ADl];simp[KM.row,HM.row]at p50';refine⟨_,_,p50',?_⟩;simp[ADk,AN];have e0:h++[Row.map [] [] 0,Row.map [] [] 0,Row.map [] [] 0,Row.cells [D.mref (h.length+1),D.mref (h.length+1+1)],Row.cells [D.ref c 0,D.mref h.length,D.ref (h.length+1+2) 0]]=h++Ee (.ref c 0) h.length []:=by
  simp[Ee,kmL,hmL,KM.row,HM.row]
 rw[e0];refine l13 h (.ref c 0) hd hl hm l hok hn _ ?_ ?_
 ·intro k hk hE hz e H' h4 h5 hJ;rw[ui hk hE hz,if_neg hz];simp[wU,h4,h5,hz,hJ]
 ·intro hE e H' h6 hp;obtain⟨J,hJ,-⟩:=hp;simp[LO hE,rO,h6,AF,wU,hJ]
theorem Om {r:Rgt} (h:r.tiny 3):(Az r).length≤65536:=by
 have h1:=h.lc;have h2:=h.ld;have h3:=h.lb;have h4:=h.lo;have h5:=h.ll;have e0:=Fa h.claims;have e1:=Am r.file;have e2:=Am r.state;have e3:=Am r.force;have e4:=DP (BP r.claims).length;have e5:=Am r.dates.length;have e6:=Dk FZ r.dates;have e7:=FY r.bad;have e8:=Am r.owners.length;have e9:=Dk FU r.owners;have e10:=Am r.lics.length;have e11:=Dk FW r.lics;simp only[Az,BN,AT5];omega
theorem Dx {r:Rgt} (h:Au r=true):0≤r.file∧r.file≤4095:=by
 unfold Au at h;simp only[AT1]at h;have:=h.1.1.1.1.1.1.1.1.1;simp only[inI,AT1,decide_eq_true_eq]at this;omega
theorem BT {l:List Int} {r:Rgt} (h:r∈AQ l):r.tiny 3:=by
 obtain⟨i,rfl,_⟩:=CW h;exact JD l i
theorem JC (l:List Int):WI (AQ l)=0:=by
 refine LO λj hj=>?_;obtain⟨r,hr⟩:∃r,(AQ l)[j]?=some r:=⟨_,AT2 hj⟩;have hm:=AT3 hr;obtain⟨_,_,hf⟩:=CW hm;have hpw:=CD l;have hany:((AQ l).take j).any (λq=>q.file==r.file)=false:=by
  rw[AVg];intro q hq;have hsp:AQ l=(AQ l).take j++(AQ l).drop j:=(AUr j _).symm;rw[hsp,AU1]at hpw;have hrd:r∈(AQ l).drop j:=by
   refine AT3 (i:=0) ?_;rw[AVF,AVR];exact hr
  have:=hpw.2.2 q hq r hrd;simpa using this
 have hfi:=Dx hf;have hle:=Om (BT hm);rw[MB hr,hf,if_pos rfl,hany];simp only[AUF,if_false];unfold IZ;rw[if_pos hfi,if_neg (by omega)]
def BZ (kind day:Int) (t:Th) (rs:List Rgt) (cl:List (Int×Int)):List V:=
 [.int .i64 kind,.int .i64 0,.int .i64 0,.int .i64 day,AL .i64 t.cs,.list (t.vs.map Val.V),.list (t.ps.map Th.V),.list (rs.map Rgt.V),.list (cl.map BA),.list [],.list [],.list [],.list []]
def DN (kind day:Int) (t:Th) (rs:List Rgt) (cl:List (Int×Int)):V:= .agg (BZ kind day t rs cl)
theorem Ds (n:Nat) (kind day:Int) (t:Th) (rs:List Rgt) (cl:List (Int×Int)):Row.low n (.cells ((BZ kind day t rs cl).map .v))=true:=by
 simp only[Row.low];exact G3 _
theorem AQf {c0:List (Int×Int)} {ps:List V} {bs:List Bool} (hps:ps.length≤64) (hbs:bs.length=4096) (h:List Row) (x:Nat) (hx:h[x]?=some (CM ps bs)) (hl:Low h) (t:Th) (ht:t.ok) (hte:thE t=0) (htk:t.kinds ps.length=true)
  (kind day:Int) (rs:List Rgt) (hrs:rs.length≤2^10) (r:Rgt) (f i:Int) (hf:rs.find? (λq=>q.file==f)=some r) (hrd:r.dates.length <2^40) (has:K1 ps.length (CS r.claims i))
  (q24:PX 24 [.list (r.claims.map Clm.V),.int .i64 i] [.list ((CS r.claims i).map F.V),.int .i64 0]):
  FX 186 [.ref x 0,.v (DN kind day t rs c0),.v (BA (f,i))] h [.v (.bool (Nn (isT ps.length bs) t r i day)),.v (.int .i64 0)] h:=by
 refine Ai AS5 rfl (AT6 _) hl (by simp[D.lt]) ?_;have q24:=q24.fsp;have hlow:Low (h++[.cells ((BZ kind day t rs c0).map .v),.cells [.v (.int .i64 f),.v (.int .i64 i)]]):=hl.lows (by
  intro row hrow n;simp only[AT7,AUE,or_false]at hrow;rcases hrow with rfl|rfl
  ·exact Ds n _ _ _ _ _
  ·simp[Row.low,D.lts,D.lt])
 have hidx:IdxR Tryz.prog GLx 276 [.ref (h.length+1) 0] (rs.map Rgt.V) (h++[.cells ((BZ kind day t rs c0).map .v),.cells [.v (.int .i64 f),.v (.int .i64 i)]]) (rs.findIdx? λq=>q.file==f) (h++[.cells ((BZ kind day t rs c0).map .v),.cells [.v (.int .i64 f),.v (.int .i64 i)]]):=
  IdxR.map λq _=>APs q f i _ (h.length+1) (by simp) hlow
 have hcf:=APt (.func 276 [.ref (h.length+1) 0]) 276 _ (FV.r 276 (h.length+1) 0 []) (rs.map Rgt.V) (by simp;omega) (by
  intro x hx;obtain⟨y,_,rfl⟩:=AT9.1 hx;exact⟨_,rfl,rfl⟩) hidx
 obtain⟨j,hj1,hj2⟩:∃j,rs.findIdx? (λq=>q.file==f)=some j∧rs[j]?=some r:=by
  rcases KV (λq:Rgt=>q.file==f) rs with ⟨h1,h2⟩|⟨j,y,h1,h2,h3⟩
  ·rw[h2]at hf;cases hf
  ·rw[hf]at h3;simp only[AT0]at h3;subst h3;exact⟨j,h1,h2⟩
 rw[hj1]at hcf;have hlr:∀n,Row.low n (.cells (r.cs.map .v))=true:=λn=>by simp only[Row.low];exact G3 _
 have hloop:=λ(H:List Row) (hH:Low H) (hxH:H[x]?=some (CM ps bs)) a4 a5 a9 d0 d1 d2 d7 d8 d9 d10 d11 d12 h4 h5 h9 Q hQ=>ARb hps hbs H x hxH hH t ht hte htk r hrd f i day a4 a5 a9 d0 d1 d2 d7 d8 d9 d10 d11 d12 h4 h5 h9 (CS r.claims i) has Q hQ;have hbr:Nn (isT ps.length bs) t r i day=Fw (isT ps.length bs) t r i day 0 (CS r.claims i):=rfl;rw[hbr];have hloop2:=hloop (h++[.cells ((BZ kind day t rs c0).map .v),.cells [.v (.int .i64 f),.v (.int .i64 i)],.cells (r.cs.map .v)]) (by have:=hlow.app (hlr _);simpa using this) (AO _ hx) h.length (h.length+1) (h.length+2);generalize CS r.claims i=al at*;generalize Fw (isT ps.length bs) t r i day 0 al=B at*;clear hloop hbr hidx has;obtain⟨cs,vs,pa⟩:=t;obtain⟨file,state,force,claims,dates,bad,owners,lics⟩:=r;simp only[DN,BZ,Rgt.cs,Th.cs,Th.vs,Th.ps,BA,AL]at*;simp at hcf q24 hloop2;simp only[AOJ,AB,AA,AG,AE,ou,ot,AS];simp;refine⟨_,_,hcf,?_⟩;simp[oq,Dj,hj2,Rgt.V,Rgt.cs,AL,AN,V.getI];simp only[AA,oo];simp;refine⟨_,_,q24 _,?_⟩;simp[AD,om,ol,oj];refine hloop2 _ _ _ _ _ _ _ _ _ rfl rfl rfl rfl rfl rfl rfl rfl rfl _ ?_;intro e J he;simp[AB,AA,VI,he,AF,ADI]
def JL (rs:List Rgt) (f:Int):Rgt:=(rs.find? λq=>q.file==f).getD ⟨0,0,0,[],[],[],[],[]⟩
def ALo:AC:=(.seq (.seq (.reg P7 [0,3,12,14,15,16,60,61,62,74]) (.cond (.t 74 false) (.seq (.reg Yc [4,5,6]) .ret) .skip)) (.seq (.reg P6 [0,3,12,14,60,61,62,76]) (.cond (.t 76 false) (.reg P5 [0,3,12,60,61,62]) .skip)))
theorem Yi:Yj=(.seq (.reg QA [0,3,12,60,61,62,63]) (.seq (.cond (.t 63 false) .skip (.exit 3)) (.seq (.block 4 (.seq (.reg P9 [0,3,12,14,60,61,62]) (.seq (.reg P8 [0,3,12,14,15,16,60,61,62]) ALo))) (.reg MZ [0,3,12,60,61,62])))):=rfl
theorem l90 {c0:List (Int×Int)} (h:List Row) (x:Nat) (kind day:Int) (t:Th) (rs:List Rgt) (cl:List (Int×Int)) (hcl:cl.length≤2^20) (b:Int×Int→Bool)
  (WJ:∀c∈cl,∀Z,Lows Z→FX 186 [.ref x 0,.v (DN kind day t rs c0),.v (BA c)] (h++ .cells ((BZ kind day t rs c0).map .v)::Z) [.v (.bool (b c)),.v (.int .i64 0)] (h++ .cells ((BZ kind day t rs c0).map .v)::Z)) (Q:AExit→St→Prop)
  (hQ:∀e J,AH e 12= .own 76 2 ((cl.filter b).map BA)→Q (.exit 3) ⟨e,h++ .cells ((BZ kind day t rs c0).map .v)::J⟩):
  awp Tryz.prog GLx (.loop Yj) Q ⟨[(0,.ref x 0),(3,.ref h.length 0),(12,.own 76 2 []),(60,.v (.list (cl.map BA))),(61,.v (.int .i64 cl.length)),(62,.v (.int .i64 (0:Nat)))],h++[.cells ((BZ kind day t rs c0).map .v)]⟩:=by
 refine Aa cl.length (λk s=>∃J,Lows J∧s=⟨[(0,.ref x 0),(3,.ref h.length 0),(12,.own 76 2 (((cl.take k).filter b).map BA)),(60,.v (.list (cl.map BA))),(61,.v (.int .i64 cl.length)),(62,.v (.int .i64 k))],h++ .cells ((BZ kind day t rs c0).map .v)::J⟩)
  ⟨[],Lows.nil,by simp⟩ ?_
 rintro k s hk ⟨J,hJ,rfl⟩;rw[Yi];simp only[AB,AA,AG,AE,QA];simp;by_cases hkl:k <cl.length
 ·obtain⟨c,hc⟩:∃c,cl[k]?=some c:=⟨_,AT2 hkl⟩;have w1:IntKind.i64.wrap ((k:Int)+1)=k+1:=AJ;have htk2:cl.take (k+1)=cl.take k++[c]:=by rw[AUP,hc];rfl
  have hlc:∀n,Row.low n (.cells [.v (.int .i64 c.1),.v (.int .i64 c.2)])=true:=λn=>by simp[Row.low,D.lts,D.lt]
  have q1:=WJ c (AT3 hc) (J++[.cells [.v (.int .i64 c.1),.v (.int .i64 c.2)]]) (hJ.app hlc);have hlen:((cl.take k).filter b).length≤k:=by
   have:=AUn b (cl.take k);rw[AUT]at this;omega
  rw[htk2,AVN,AVi,AWF];generalize (cl.take k).filter b=L at*;have hroom:Ae (L.length+1) 16=true:=by simp[Ae];omega
  generalize b c=B at*;obtain⟨c1,c2⟩:=c;obtain⟨cs,vs,pa⟩:=t;simp only[DN,BZ,Th.cs,Th.vs,Th.ps,BA,AL]at*;simp at q1;rw[if_pos (by omega),AD];simp only[AA,P9];simp[hc,AN,BA];simp only[AA,P8];simp;refine⟨_,_,q1,?_⟩;unfold ALo;simp[AB,AA,AE,P7,AD,P6];cases B with
  |false=>
   simp[AD,AA,MZ,w1,hkl];exact hJ.app hlc
  |true=>
   simp[AA,P5,hroom,MZ,w1,hkl,BA];exact hJ.app hlc
 ·have hk2:k=cl.length:=by omega
  subst hk2;rw[if_neg (by omega),AM,AUb];exact hQ _ _ rfl
theorem yE {c0:List (Int×Int)} (h:List Row) (x:Nat) (day:Int) (t:Th) (rs:List Rgt) (cl:List (Int×Int)) (hl:Low h)
  (Pd:∀Z,Lows Z→FX 185 [.ref x 0,.v (.list (rs.map Rgt.V)),.v t.V] (h++Z) [.own 76 2 (cl.map BA),.v (.int .i64 0)] (h++Z)):
  FX 90 [.ref x 0,.v (DN 1 day t rs c0)] h [.v (.list (cl.map BA)),.own 3 1 [],.v (.int .i64 0)] h:=by
 refine Ai k90 rfl (AT6 _) hl (by simp[D.lt]) ?_;have q1:=Pd [.cells ((BZ 1 day t rs c0).map .v)] (by
  intro row hrow n;rw[AUC.1 hrow];exact Ds n _ _ _ _ _)
 obtain⟨cs,vs,pa⟩:=t;simp only[DN,BZ,Th.cs,Th.vs,Th.ps,AL]at*;simp[Th.V_eq,AL]at q1;simp only[c90,AB,AA,AG,AE,Ts,Tr,AS];simp;simp[Tq,QD,AD];simp only[AB,AA,QC];simp;refine⟨_,_,q1,?_⟩;simp[QB,AB,AA,Yf,AF,Yl]
theorem yD {c0:List (Int×Int)} (h:List Row) (x:Nat) (day:Int) (t:Th) (rs:List Rgt) (cl:List (Int×Int)) (hcl:cl.length≤2^20) (hl:Low h) (b:Int×Int→Bool)
  (Pd:∀Z,Lows Z→FX 185 [.ref x 0,.v (.list (rs.map Rgt.V)),.v t.V] (h++Z) [.own 76 2 (cl.map BA),.v (.int .i64 0)] (h++Z))
  (WJ:∀c∈cl,∀Z,Lows Z→FX 186 [.ref x 0,.v (DN 3 day t rs c0),.v (BA c)] (h++ .cells ((BZ 3 day t rs c0).map .v)::Z) [.v (.bool (b c)),.v (.int .i64 0)] (h++ .cells ((BZ 3 day t rs c0).map .v)::Z)):
  FX 90 [.ref x 0,.v (DN 3 day t rs c0)] h [.own 76 2 ((cl.filter b).map BA),.own 3 1 [],.v (.int .i64 0)] h:=by
 refine Ai k90 rfl (AT6 _) hl (by simp[D.lt]) ?_;have q1:=Pd [.cells ((BZ 3 day t rs c0).map .v)] (by
  intro row hrow n;rw[AUC.1 hrow];exact Ds n _ _ _ _ _)
 have hloop:=l90 h x 3 day t rs cl hcl b WJ;obtain⟨cs,vs,pa⟩:=t;simp only[DN,BZ,Th.cs,Th.vs,Th.ps,AL]at*;simp[Th.V_eq,AL]at q1 hloop;simp only[c90,AB,AA,AG,AE,Ts,Tr,AS];simp;simp[Tq,QD,AD];simp only[AA,Yg];simp;simp only[AB,AA,QC];simp;refine⟨_,_,q1,?_⟩;simp[QB,AD,AA,Ye,Yd];refine hloop _ ?_;intro e J he;simp[AB,AA,Yb,he,AF,Yl]
end Go.Va
