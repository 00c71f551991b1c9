/- Laws that ExtractBytes leans on, part 24. No condition of its own. -/
import Derived.Test.YtopldfpkgbkomaaGreatDoorL19
import Derived.Test.YtopldfpkgbkomaaGreatDoorL21
set_option linter.all false
set_option maxRecDepth 100000
set_option maxHeartbeats 4000000
noncomputable section
namespace Go.Va
open Go.Proofs
theorem ei (r:Rgt) (hds:∀d∈r.dates,d.ok) (hn:r.dates.length≤2^30) (Y:List Int) (hY:Y.length≤2^43) (J:List Row):
  awp Tryz.prog An (.loop (lG 54 0)) (λe s=>e= .exit 0∧AF s.e 1= .ref 0 0∧AF s.e 7= .own 5 1 ((Y++r.dates.flatMap CE).map (.int .u8))∧∃J2,s.h=r.row::J2)
   ⟨[(1,.ref 0 0),(7,.own 5 1 (Y.map (.int .u8))),(8,.v (.int .i64 0))],r.row::J⟩:=by
 refine Al r.dates.length (λk s=>s.e=[(1,.ref 0 0),(7,.own 5 1 ((Y++(r.dates.take k).flatMap CE).map (.int .u8))),(8,.v (.int .i64 k))]∧∃J2,s.h=r.row::J2) ⟨by simp,J,by simp⟩ ?_;rintro k ⟨se,sh⟩ hk ⟨he,J2,hh⟩;simp only at he hh;subst he hh;simp only[Zw,BA 54 0,AA 54 9];simp[Rgt.row];by_cases hlt:k <r.dates.length
 ·obtain⟨x,hxk⟩:∃x,r.dates[k]?=some x:=⟨_,qH hlt⟩;have hxe:r.dates[k]=x:=(qK.1 hxk).2;have hx:=hds x (qJ hxk);have hw:=Bo k;have hle:=Cr D1 (r.dates.take k);have ht:(r.dates.take k).length=k:=by simp;omega
  have e:(r.dates.take (k+1)).flatMap CE=(r.dates.take k).flatMap CE++CE x:=by rw[Av hlt,hxe]
  have:=AO x.cl;have:=AO x.ix;have:=AO x.day;have:=AO x.file;obtain⟨X,hX⟩:∃X,Y++(r.dates.take k).flatMap CE=X:=⟨_,rfl⟩;have hXl:X.length≤2^44:=by rw[←hX,qG];omega
  have q0:=IY (X) x.cl hx.1 (by first|omega|(simp only[qG];omega))
  try simp at q0
  have q1:=IY (X++AN x.cl) x.ix hx.2.1 (by first|omega|(simp only[qG];omega))
  try simp at q1
  have q2:=IY (X++AN x.cl++AN x.ix) x.day hx.2.2.1 (by first|omega|(simp only[qG];omega))
  try simp at q2
  have q3:=IY (X++AN x.cl++AN x.ix++AN x.day) x.file hx.2.2.2 (by first|omega|(simp only[qG];omega))
  try simp at q3
  have hend:(Y++(r.dates.take (k+1)).flatMap CE).map (V.int .u8)=(X++AN x.cl++AN x.ix++AN x.day++AN x.file).map (V.int .u8):=by rw[e,←qg,hX];simp[CE]
  have hX2:Y.map (V.int .u8)++((r.dates.take k).flatMap CE).map (V.int .u8)=X.map (V.int .u8):=by rw[←hX,qh]
  rw[if_pos (by omega),AB];simp only[AA 54 11];simp[hxk,Dat.V,AS,AW];simp only[AA 54 12];simp
  try simp only[qh]at hX2
  try rw[hX2]
  refine⟨_,q0,?_⟩;simp;refine⟨_,q1,?_⟩;simp;refine⟨_,q2,?_⟩;simp;refine⟨_,q3,?_⟩;simp;simp[AA 54 10,hw,hlt]
  try simp at hend
  exact hend.symm
 ·have:k=r.dates.length:=by omega
  subst this;rw[if_neg (by omega),AJ];simp
theorem eh (r:Rgt) (hds:∀d∈r.owners,d.ok) (hn:r.owners.length≤2^30) (Y:List Int) (hY:Y.length≤2^43) (J:List Row):
  awp Tryz.prog An (.loop (lG 54 1)) (λe s=>e= .exit 2∧AF s.e 1= .ref 0 0∧AF s.e 7= .own 5 1 ((Y++r.owners.flatMap CB).map (.int .u8))∧∃J2,s.h=r.row::J2)
   ⟨[(1,.ref 0 0),(7,.own 5 1 (Y.map (.int .u8))),(10,.v (.int .i64 0))],r.row::J⟩:=by
 refine Al r.owners.length (λk s=>s.e=[(1,.ref 0 0),(7,.own 5 1 ((Y++(r.owners.take k).flatMap CB).map (.int .u8))),(10,.v (.int .i64 k))]∧∃J2,s.h=r.row::J2) ⟨by simp,J,by simp⟩ ?_;rintro k ⟨se,sh⟩ hk ⟨he,J2,hh⟩;simp only at he hh;subst he hh;simp only[Zw,BA 54 1,AA 54 16];simp[Rgt.row];by_cases hlt:k <r.owners.length
 ·obtain⟨x,hxk⟩:∃x,r.owners[k]?=some x:=⟨_,qH hlt⟩;have hxe:r.owners[k]=x:=(qK.1 hxk).2;have hx:=hds x (qJ hxk);have hw:=Bo k;have hle:=Cr Dz (r.owners.take k);have ht:(r.owners.take k).length=k:=by simp;omega
  have e:(r.owners.take (k+1)).flatMap CB=(r.owners.take k).flatMap CB++CB x:=by rw[Av hlt,hxe]
  have:=AO x.party;have:=AO x.num;have:=AO x.den;obtain⟨X,hX⟩:∃X,Y++(r.owners.take k).flatMap CB=X:=⟨_,rfl⟩;have hXl:X.length≤2^44:=by rw[←hX,qG];omega
  have q0:=IY (X) x.party hx.1 (by first|omega|(simp only[qG];omega))
  try simp at q0
  have q1:=IY (X++AN x.party) x.num hx.2.1 (by first|omega|(simp only[qG];omega))
  try simp at q1
  have q2:=IY (X++AN x.party++AN x.num) x.den hx.2.2 (by first|omega|(simp only[qG];omega))
  try simp at q2
  have hend:(Y++(r.owners.take (k+1)).flatMap CB).map (V.int .u8)=(X++AN x.party++AN x.num++AN x.den).map (V.int .u8):=by rw[e,←qg,hX];simp[CB]
  have hX2:Y.map (V.int .u8)++((r.owners.take k).flatMap CB).map (V.int .u8)=X.map (V.int .u8):=by rw[←hX,qh]
  rw[if_pos (by omega),AB];simp only[AA 54 18];simp[hxk,Own.V,AS,AW];simp only[AA 54 19];simp
  try simp only[qh]at hX2
  try rw[hX2]
  refine⟨_,q0,?_⟩;simp;refine⟨_,q1,?_⟩;simp;refine⟨_,q2,?_⟩;simp;simp[AA 54 17,hw,hlt]
  try simp at hend
  exact hend.symm
 ·have:k=r.owners.length:=by omega
  subst this;rw[if_neg (by omega),AJ];simp
theorem eg (r:Rgt) (hds:∀d∈r.lics,d.ok) (hn:r.lics.length≤2^30) (Y:List Int) (hY:Y.length≤2^43) (J:List Row):
  awp Tryz.prog An (.loop (lG 54 2)) (λe s=>e= .exit 4∧AF s.e 1= .ref 0 0∧AF s.e 7= .own 5 1 ((Y++r.lics.flatMap CC).map (.int .u8))∧∃J2,s.h=r.row::J2)
   ⟨[(1,.ref 0 0),(7,.own 5 1 (Y.map (.int .u8))),(12,.v (.int .i64 0))],r.row::J⟩:=by
 refine Al r.lics.length (λk s=>s.e=[(1,.ref 0 0),(7,.own 5 1 ((Y++(r.lics.take k).flatMap CC).map (.int .u8))),(12,.v (.int .i64 k))]∧∃J2,s.h=r.row::J2) ⟨by simp,J,by simp⟩ ?_;rintro k ⟨se,sh⟩ hk ⟨he,J2,hh⟩;simp only at he hh;subst he hh;simp only[Zw,BA 54 2,AA 54 22];simp[Rgt.row];by_cases hlt:k <r.lics.length
 ·obtain⟨x,hxk⟩:∃x,r.lics[k]?=some x:=⟨_,qH hlt⟩;have hxe:r.lics[k]=x:=(qK.1 hxk).2;have hx:=hds x (qJ hxk);have hw:=Bo k;have hle:=Cr D0 (r.lics.take k);have ht:(r.lics.take k).length=k:=by simp;omega
  have e:(r.lics.take (k+1)).flatMap CC=(r.lics.take k).flatMap CC++CC x:=by rw[Av hlt,hxe]
  have:=AO x.fr;have:=AO x.to;have:=AO x.fst;have:=AO x.lst;obtain⟨X,hX⟩:∃X,Y++(r.lics.take k).flatMap CC=X:=⟨_,rfl⟩;have hXl:X.length≤2^44:=by rw[←hX,qG];omega
  have q0:=IY (X) x.fr hx.1 (by first|omega|(simp only[qG];omega))
  try simp at q0
  have q1:=IY (X++AN x.fr) x.to hx.2.1 (by first|omega|(simp only[qG];omega))
  try simp at q1
  have q2:=IY (X++AN x.fr++AN x.to) x.fst hx.2.2.1 (by first|omega|(simp only[qG];omega))
  try simp at q2
  have q3:=IY (X++AN x.fr++AN x.to++AN x.fst) x.lst hx.2.2.2 (by first|omega|(simp only[qG];omega))
  try simp at q3
  have hend:(Y++(r.lics.take (k+1)).flatMap CC).map (V.int .u8)=(X++AN x.fr++AN x.to++AN x.fst++AN x.lst).map (V.int .u8):=by rw[e,←qg,hX];simp[CC]
  have hX2:Y.map (V.int .u8)++((r.lics.take k).flatMap CC).map (V.int .u8)=X.map (V.int .u8):=by rw[←hX,qh]
  rw[if_pos (by omega),AB];simp only[AA 54 24];simp[hxk,Lic.V,AS,AW];simp only[AA 54 25];simp
  try simp only[qh]at hX2
  try rw[hX2]
  refine⟨_,q0,?_⟩;simp;refine⟨_,q1,?_⟩;simp;refine⟨_,q2,?_⟩;simp;refine⟨_,q3,?_⟩;simp;simp[AA 54 23,hw,hlt]
  try simp at hend
  exact hend.symm
 ·have:k=r.lics.length:=by omega
  subst this;rw[if_neg (by omega),AJ];simp
theorem oQ (r:Rgt) (hr:r.ok):PX 54 [r.V] [AH .u8 (if Ag r then Bg r else []),.int .i64 (if Ag r then 0 else 1)]:=by
 refine BU 54 ?_;have p1:=(oS r hr).fsp;have hlb:=hr.lb;have hld:=hr.ld;have hlo:=hr.lo;have hll:=hr.ll;have henc:=hr.enc;have hcl:Ag r=true→CV r.claims=0:=by
  intro h;unfold Ag at h;simp at h;exact h.1.1.1.1.1.1.2
 have p2:=(mE r.claims hr.claims (by have:=hr.lc;omega) (by omega)).fsp;cases hf:Ag r with
 |false=>
  rw[hf]at p1;simp only[At 54,AE,AG,AL,AA 54 0,AA 54 1,AV];simp[Rgt.V,Rgt.cs]at p1 ⊢;refine⟨_,_,p1 _,?_⟩;simp[AD,AA 54 2,AA 54 3,AX 54,AH]
 |true=>
  rw[hf]at p1;rw[hcl hf]at p2;simp at p2;obtain⟨R,hR⟩:∃R,Bg r=R:=⟨_,rfl⟩;rw[hR];have i1:=AO r.file;have i2:=AO r.state;have i3:=AO r.force;have q0:=eB r.file hr.file;have q1:=IY (AN r.file) r.state hr.state (by omega);obtain⟨Y1,hY1⟩:∃Y,AN r.file++AN r.state=Y:=⟨_,rfl⟩;rw[hY1]at q1;have m1:Y1.length≤20:=by rw[←hY1,qG];omega
  have q2:=IY Y1 r.force hr.force (by omega);obtain⟨X1,hX1⟩:∃X1,Y1++AN r.force=X1:=⟨_,rfl⟩;have l1:X1.length≤30:=by rw[←hX1,qG];omega
  rw[hX1]at q2;have q3:=So (A8 r.claims) (by omega);have hraw:(AY (A8 r.claims)).length≤2^40:=by have:=Aw (A8 r.claims).length;simp only[AY,qG];omega
  obtain⟨W,hW⟩:∃W,AY (A8 r.claims)=W:=⟨_,rfl⟩;rw[hW]at q3 hraw;obtain⟨X2,hX2⟩:∃X2,X1++W=X2:=⟨_,rfl⟩;have l2:X2.length≤2^41:=by rw[←hX2,qG];omega
  have q4:=IY X2 r.dates.length (by unfold i64;omega) (by omega);obtain⟨X3,hX3⟩:∃X3,X2++AN r.dates.length=X3:=⟨_,rfl⟩;have i4:=AO r.dates.length;have l3:X3.length≤2^41+10:=by rw[←hX3,qG];omega
  rw[hX3]at q4;have q5:=λJ=>ei r hr.dates hld X3 (by omega) J;have i5:=Cr D1 r.dates;obtain⟨X4,hX4⟩:∃X4,X3++r.dates.flatMap CE=X4:=⟨_,rfl⟩;have l4:X4.length≤2^41+2^37:=by rw[←hX4,qG];omega
  rw[hX4]at q5;have q6:=λh=>Ws r.bad hr.bad (by omega) h;have i6:=Au r.bad;have i7:=Aw r.bad.length;obtain⟨W2,hW2⟩:∃W,Ah r.bad=W:=⟨_,rfl⟩;have w2:W2.length≤2^37:=by rw[←hW2,Ah,qG];omega
  rw[hW2]at q6;obtain⟨X5,hX5⟩:∃X5,X4++W2=X5:=⟨_,rfl⟩;have l5:X5.length≤2^41+2^38:=by rw[←hX5,qG];omega
  have q7:=IY X5 r.owners.length (by unfold i64;omega) (by omega);obtain⟨X6,hX6⟩:∃X6,X5++AN r.owners.length=X6:=⟨_,rfl⟩;have i8:=AO r.owners.length;have l6:X6.length≤2^41+2^38+10:=by rw[←hX6,qG];omega
  rw[hX6]at q7;have q8:=λJ=>eh r hr.owners hlo X6 (by omega) J;have i9:=Cr Dz r.owners;obtain⟨X7,hX7⟩:∃X7,X6++r.owners.flatMap CB=X7:=⟨_,rfl⟩;have l7:X7.length≤2^41+2^39:=by rw[←hX7,qG];omega
  rw[hX7]at q8;have q9:=IY X7 r.lics.length (by unfold i64;omega) (by omega);obtain⟨X8,hX8⟩:∃X8,X7++AN r.lics.length=X8:=⟨_,rfl⟩;have i10:=AO r.lics.length;have l8:X8.length≤2^41+2^39+10:=by rw[←hX8,qG];omega
  rw[hX8]at q9;have q10:=λJ=>eg r hr.lics hll X8 (by omega) J;have i11:=Cr D0 r.lics;obtain⟨X9,hX9⟩:∃X9,X8++r.lics.flatMap CC=X9:=⟨_,rfl⟩;have l9:X9.length≤2^42:=by rw[←hX9,qG];omega
  rw[hX9]at q10;have hRX:X9=R:=by
   rw[←hR,←hX9,←hX8,←hX7,←hX6,←hX5,←hX4,←hX3,←hX2,←hX1,←hW,←hW2,←hY1];simp[Bg]
  rw[hRX]at q10 l9;generalize AN r.file=F0 at*;simp[AH]at p2;have a1:X1.map (V.int .u8)++W.map (V.int .u8)=X2.map (V.int .u8):=by rw[←hX2,qh]
  have a2:X4.map (V.int .u8)++W2.map (V.int .u8)=X5.map (V.int .u8):=by rw[←hX5,qh]
  have b1:AK (X1.length+W.length) 1=true:=by simp[AK];omega
  have b2:AK (X4.length+W2.length) 1=true:=by simp[AK];omega
  simp only[Zw,At 54,AA 54 0,AA 54 1,AV];simp[Rgt.V,Rgt.cs,AH]at p1 ⊢;refine⟨_,_,p1 _,?_⟩;simp[AB,AA 54 2,AA 54 4];refine⟨_,_,p2 _,?_⟩;simp[AW,AA 54 5];refine⟨_,q0,?_⟩;simp;refine⟨_,q1,?_⟩;simp;refine⟨_,q2,?_⟩;simp[AA 54 6];simp[AH]at q3;refine⟨_,_,(q3 _),?_⟩;simp[b1,a1,AA 54 7];refine⟨_,q4,?_⟩;simp[AA 54 8];refine AZ _ ?_ (q5 _);rintro e ⟨se,sh⟩ ⟨rfl,f1,f7,J2,hh⟩;simp only at f1 f7 hh;subst hh;simp[AA 54 13,f1,f7,Rgt.row];simp[AH]at q6;refine⟨_,_,(q6 _),?_⟩;simp[b2,a2,AA 54 14,f1];refine⟨_,q7,?_⟩;simp[AA 54 15];refine AZ _ ?_ (q8 _);rintro e ⟨se,sh⟩ ⟨rfl,f1,f7,J3,hh⟩;simp only at f1 f7 hh;subst hh;simp[AA 54 20,f1,f7,Rgt.row];refine⟨_,q9,?_⟩;simp[AA 54 21];refine AZ _ ?_ (q10 _);rintro e ⟨se,sh⟩ ⟨rfl,f1,f7,J4,hh⟩;simp only at f1 f7 hh;subst hh;simp[AA 54 26,f7,AD,AX 54]
end Go.Va
