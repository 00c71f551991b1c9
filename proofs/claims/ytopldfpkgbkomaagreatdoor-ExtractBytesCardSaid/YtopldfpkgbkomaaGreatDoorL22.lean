/- Laws that ExtractBytes leans on, part 22. No condition of its own. -/
import Derived.Test.YtopldfpkgbkomaaGreatDoorL04
import Derived.Test.YtopldfpkgbkomaaGreatDoorL13
import Derived.Test.YtopldfpkgbkomaaGreatDoorL16
import Derived.Test.YtopldfpkgbkomaaGreatDoorL18
import Derived.Test.YtopldfpkgbkomaaGreatDoorL21
set_option linter.all false
set_option maxRecDepth 100000
set_option maxHeartbeats 4000000
noncomputable section
namespace Go.Va
open Go.Proofs
def He:V:= .list [.list [],.list [.int .i64 0],.list [.int .i64 0],.list [.int .i64 1,.int .i64 2],.list [],.list [.int .i64 4]]
theorem oW:PX 16 [] [He]:=by
 refine BU 16 ?_;simp[At 16,AE,AG,AD,AA 16 0,AA 16 1,AX 16,AV,He]
def Hv (n:Int):Int:=([0,7,8,4095,2047][n.toNat]?).getD 0
def DI (l:List Int) (i:Nat):Rgt:=
 let r:=ET (l.drop (min l.length (1+4*i)))
 {r with file:=Hv ((i+Ai l 0 5).tmod 5),force:=if i%2=0 then 0 else r.force}
def A7 (l:List Int):List Rgt:=((List.range (Ai l 0 5).toNat).map (DI l)).filter Ag
theorem KU (l:List Int) (i:Nat):(DI l i).tiny 3:=by
 have h:=QY (l.drop (min l.length (1+4*i)));refine⟨?_,h.state,?_,h.claims,h.dates,h.bad,h.owners,h.lics,h.lc,h.ld,h.lb,h.lo,h.ll⟩
 ·simp only[DI,Hv];generalize ((i+Ai l 0 5).tmod 5).toNat=k
  match k with
  |0|1|2|3|4=>simp[i64]
  |k+5=>simp[i64]
 ·simp only[DI];split
  ·simp[i64]
  ·exact h.force
def be:AC:=(.seq (.reg (oG 10 6) [0,3,4,5,6]) (.seq (.reg (oG 10 7) [0,3,4,5,6]) (.seq (.seq (.reg (oG 10 8) [0,3,4,5,6,34]) (.cond (.t 34 false) (.reg (oG 10 9) [0,3,4,5,6]) .skip)) (.seq (.reg (oG 10 10) [0,3,4,5,6,7]) (.seq (.reg (oG 10 11) [0,3,4,5,6,38]) (.cond (.t 38 false) (.reg (oG 10 12) [0,3,4,5]) .skip))))))
theorem V0:(lG 10 0)=(.seq (.seq (.reg (oG 10 4) [0,3,4,5,12]) (.cond (.t 12 false) .skip (.exit 0))) (.seq (.block 1 be) (.reg (oG 10 5) [0,3,4,5]))):=(BA 10 0 :)
theorem nJ (l:List Int) (n:Int) (k:Nat) (A:List Rgt) (J:List Row) (hk:k <n.toNat) (hn5:n <5) (hA:A.length≤k) (S Q:Rgt)
  (hr:Q={S with file:=Hv ((k+n).tmod 5),force:=if k%2=0 then 0 else S.force})
  (p2:PX 48 [AH .i64 (l.drop (min l.length (1+4*k)))] [S.V])
  (p3:PX 49 [Q.V] [.bool (Ag Q)]) (K:AExit→St→Prop)
  (hK:∀e J',AF e 0= .v (AH .i64 l)→AF e 3= .own 32 8 ((A++(if Ag Q then [Q] else [])).map Rgt.V)→AF e 4= .v (.int .i64 n)→AF e 5= .v (.int .i64 k)→K .normal ⟨e,J'⟩):
  ∀e,AF e 0= .v (AH .i64 l)→AF e 3= .own 32 8 (A.map Rgt.V)→AF e 4= .v (.int .i64 n)→AF e 5= .v (.int .i64 k)→awp Tryz.prog An be K ⟨e,J⟩:=by
 intro e f0 f3 f4 f5;have v2:IntKind.i64.wrap (4*(k:Int))=4*k:=AQ;have v3:IntKind.i64.wrap (1+4*(k:Int))=1+4*k:=AQ;have v4:IntKind.i64.wrap ((k:Int)+n)=k+n:=AQ;have hroom:AK (A.length+1) 144=true:=by simp[AK];omega
 have hmin:(if 1+4*(k:Int) <(l.length:Int) then 1+4*(k:Int) else (l.length:Int))=(min l.length (1+4*k):Nat):=by split<;>omega
 have p2:=p2.fsp;have p3:=p3.fsp;have hlen:min l.length (1+4*k)≤l.length:=Nat.min_le_left _ _;generalize min l.length (1+4*k)=m at*;simp[AH,Rgt.V,Rgt.cs]at p2 p3 f0;unfold be;simp only[AE,AG,AL,AA 10 6];have htk:(l.map (V.int .i64)).take l.length=l.map (V.int .i64):=qw (by simp);simp[v2,v3,hmin,hlen,htk,f0,f5];refine⟨_,_,p2 _,?_⟩;have t0:0≤((k:Int)+n).tmod 5:=t9 _ (by omega);have t1:([V.int .i64 0,V.int .i64 7,V.int .i64 8,V.int .i64 4095,V.int .i64 2047])[(((k:Int)+n).tmod 5).toNat]?=some (.int .i64 (Hv (((k:Int)+n).tmod 5))):=by
  have t2:=Ts ((k:Int)+n) 5 (by decide);unfold Hv;obtain⟨q,hq⟩:∃q,(((k:Int)+n).tmod 5).toNat=q:=⟨_,rfl⟩;rw[hq];have:q <5:=by omega
  match q,this with
  |0,_|1,_|2,_|3,_|4,_=>rfl
 generalize Hv (((k:Int)+n).tmod 5)=fl at*;simp[AS,AA 10 7,v4,t0,t1,f0,f3,f4,f5];have hcl:∀f:Int,Q.claims=S.claims∧Q.dates=S.dates∧Q.bad=S.bad∧Q.owners=S.owners∧Q.lics=S.lics∧Q.file=fl∧Q.state=S.state∧Q.force=if k%2=0 then 0 else S.force:=by subst hr;simp
 obtain⟨e1,e2,e3,e4,e5,e6,e7,e8⟩:=hcl 0;rw[e1,e2,e3,e4,e5,e6,e7,e8]at p3;have hk2:(k:Int).tmod 2=0↔k%2=0:=by rw[tx (by omega)];omega
 by_cases h2:k%2=0
 ·rw[if_pos h2]at p3 e8;have h2':=hk2.2 h2;simp[AA 10 8,h2',AA 10 9,AS,AA 10 10,D.vs?,D.v?];refine⟨_,_,(p3 _),?_⟩;cases hf:Ag Q with
  |false=>
   rw[hf]at hK;simp[AA 10 11,AB];exact hK _ _ (by simp[AH]) (by simp) (by simp) (by simp)
  |true=>
   rw[hf]at hK;simp[AA 10 11,AA 10 12,hroom,D.vs?,D.v?];exact hK _ _ (by simp[AH]) (by simp[Rgt.V,Rgt.cs,e1,e2,e3,e4,e5,e6,e7,e8,AH]) (by simp) (by simp)
 ·rw[if_neg h2]at p3 e8;have h2':¬(k:Int).tmod 2=0:=λh=>h2 (hk2.1 h);simp[AA 10 8,h2',AB,AA 10 10,D.vs?,D.v?];refine⟨_,_,(p3 _),?_⟩;cases hf:Ag Q with
  |false=>
   rw[hf]at hK;simp[AA 10 11];exact hK _ _ (by simp[AH]) (by simp) (by simp) (by simp)
  |true=>
   rw[hf]at hK;simp[AA 10 11,AA 10 12,hroom,D.vs?,D.v?];exact hK _ _ (by simp[AH]) (by simp[Rgt.V,Rgt.cs,e1,e2,e3,e4,e5,e6,e7,e8,AH]) (by simp) (by simp)
theorem iR (l:List Int):PX 10 [AH .i64 l] [.list ((A7 l).map Rgt.V)]:=by
 refine BU 10 ?_;have p1:=(Rp l 0 5 (by decide)).fsp;have hn:=El l 0 5 (by decide);have hrf:∀i:Nat,DI l i={ET (l.drop (min l.length (1+4*i)))with file:=Hv ((i+Ai l 0 5).tmod 5),force:=if i%2=0 then 0 else (ET (l.drop (min l.length (1+4*i)))).force}:=λ_=>rfl;have hres:A7 l=((List.range (Ai l 0 5).toNat).map (DI l)).filter Ag:=rfl;generalize A7 l=R at*;generalize Ai l 0 5=n at*;simp[AH]at p1;simp only[At 10,AE,AG,AU,AA 10 0,AA 10 1,AV];simp[AA 10 2,AH];refine⟨_,_,p1 _,?_⟩;simp[AA 10 3];refine Al n.toNat (λk s=>s.e=[(0,.v (AH .i64 l)),(3,.own 32 8 ((((List.range k).map (DI l)).filter Ag).map Rgt.V)),(4,.v (.int .i64 n)),(5,.v (.int .i64 k))]) (by simp[AH]) ?_;rintro k ⟨se,sh⟩ hk he;simp only at he;subst he;simp only[Zw,V0,AA 10 4];simp;by_cases hlt:k <n.toNat
 ·have v1:=Bo k;have v2:IntKind.i64.wrap (4*(k:Int))=4*k:=AQ;have v3:IntKind.i64.wrap (1+4*(k:Int))=1+4*k:=AQ;have v4:IntKind.i64.wrap ((k:Int)+n)=k+n:=AQ;have hr:=hrf k;have hle:(((List.range k).map (DI l)).filter Ag).length≤k:=by have:=rT Ag ((List.range k).map (DI l));simpa using this
  have hsucc:((List.range (k+1)).map (DI l)).filter Ag=((List.range k).map (DI l)).filter Ag++(if Ag (DI l k) then [DI l k] else []):=by
   rw[sG,qh,su];simp[uA]
  rw[hsucc];have p2:=pO (l.drop (min l.length (1+4*k)));have p3:=oS (DI l k) ((KU l k).ok (by decide));generalize ((List.range k).map (DI l)).filter Ag=A at*;generalize DI l k=Q at*;generalize ET (l.drop (min l.length (1+4*k)))=S at*;rw[if_pos (by omega),AB];simp only[];refine nJ l n k A _ hlt hn.2 hle S Q hr p2 p3 _ ?_ _ (by simp[AH]) (by simp) (by simp) (by simp);intro e J' f0 f3 f4 f5;simp only[AH]at f0;simp only[];simp[AA 10 5,v1,f0,f3,f4,f5,AH];omega
 ·have:k=n.toNat:=by omega
  subst this;rw[if_neg (by omega),AJ];simp[AA 10 13,AD,AX 10,hres]
section
variable {k:Nat}
theorem Lk {α:Type} {l:List α} {x:α} (h:l[k]?=some x) (f:α→V):(l.map f).take (k+1)=(l.map f).take k++[f x]:=by
 rw[qc,qZ,h];rfl
theorem pt (Z:List D):
  awp Tryz.prog An (.loop (lG 46 0)) (λe s=>e= .exit 0∧AF s.e 5= .ref 0 0∧s.h=[.cells (.own 22 1 (EF.map (AH .i64))::Z)])
   ⟨[(4,.v (.int .i64 6)),(5,.ref 0 0),(14,.v (.list (EF.map (AH .i64)))),(15,.v (.int .i64 6)),(16,.v (.int .i64 0))],[.cells (.own 22 1 []::Z)]⟩:=by
 refine AM 6 (λk=>⟨[(4,.v (.int .i64 6)),(5,.ref 0 0),(14,.v (.list (EF.map (AH .i64)))),(15,.v (.int .i64 6)),(16,.v (.int .i64 k))],[.cells (.own 22 1 ((EF.take k).map (AH .i64))::Z)]⟩) (by simp) ?_;intro k hk;simp only[Zw,BA 46 0,AA 46 6];simp;have hp6:EF.length=6:=rfl;by_cases hlt:k <6
 ·obtain⟨ps,hps⟩:∃ps,EF[k]?=some ps:=⟨_,qH (by omega)⟩;have hmem:=qJ hps;have p1:=(eH ps hmem).fsp;have p2:=(eG ps hmem).fsp;have p3:=eE ps hmem;have hw:=Bo k;have e:=Lk hps (AH .i64);have hm:min k EF.length=k:=by omega
  have hroom:AK (k+1) 24=true:=by simp[AK];omega
  generalize EF=par at*;rw[if_pos (by omega),AB];simp only[AA 46 7];simp only[AH]at p1 p2 p3 e;simp at p1 p2;simp[hps,AH];simp only[AA 46 8];simp;refine⟨_,_,(p1 _),?_⟩;simp;refine⟨_,_,(p2 _),?_⟩;simp[AB,AW,AA 46 10];refine⟨_,_,⟨rfl,rfl⟩,_,p3,?_⟩;simp[hm,hroom,AA 46 11,hw,hlt,e]
 ·have:k=6:=by omega
  subst this;rw[if_neg (by omega),AJ];have:(EF.map (AH .i64)).take 6=EF.map (AH .i64):=rfl;simp[this]
def zb:List Bool:=List.replicate 4096 false
def zD:List D:=List.replicate 4096 (.v (.bool false))
theorem cj:zD=zb.map bv:=by rw[zD,zb,List.map_replicate]
theorem ZH:zD.map D.toRow=zD:=by rw[zD,List.map_replicate];rfl
theorem ZG:zb.length=4096:=by rw[zb,List.length_replicate]
def Vn:List GI:=[⟨none,.p 12 (.build (.nil 22 1::zD) [])⟩,⟨none,.box 13 (.t 12 false)⟩,⟨none,.mv 5 (.t 13 false)⟩]
theorem Vm:(oG 46 4)=Vn:=(AA 46 4 :)
theorem pP:FX 46 [.v (.list (EF.map (AH .i64)))] [] [.ref 0 0,.v (.int .i64 0)] (Cn (Dl 6 zb) (F7 6) (F7 6)):=by
 refine Fn 46 ?_;have q:=pt zD;have q2:=mG zb ZG;rw[QL,←cj,Hf]at q2;generalize Cn (Dl 6 zb) (F7 6) (F7 6)=HH at*;have hp6:EF.length=6:=rfl;have hz:=ZH;simp only[Zw,At 46,AA 46 0,AA 46 1,Ab];rw[Vm];unfold Vn;generalize zD=Z at*;generalize EF=par at*;simp[hp6,AA 46 2,AB];simp[hz,AA 46 5,hp6];refine AZ _ ?_ q;rintro e ⟨se,sh⟩ ⟨rfl,f5,hh⟩;simp only at f5 hh;subst hh;simp[AA 46 12,f5];refine⟨_,_,q2,?_⟩;simp[AA 46 14,AD,AX 46,f5]
theorem p9:FX 9 [] [] [.ref 0 0] [.dead]:=by
 have key:FX 9 [] [] [.ref 0 0] [QL (Dl 6 zb)]:=by
  refine CW (KN 9) rfl (by simp) ?_ ?_ ?_
  ·intro row hrow;simp only[qO]at hrow;subst hrow;simp only[QL,Row.low];refine JR λd hd=>?_;rcases qL.1 hd with rfl|hd
   ·rfl
   ·obtain⟨b,-,rfl⟩:=qX.1 hd;rfl
  ·intro d hd;simp only[qO]at hd;subst hd;rfl
  have q1:=oW.fsp;have q2:=pP;have e:He= .list (EF.map (AH .i64)):=rfl;rw[e]at q1;have hJ:∃J,Cn (Dl 6 zb) (F7 6) (F7 6)=[QL (Dl 6 zb)]++J:=⟨_,rfl⟩;generalize Cn (Dl 6 zb) (F7 6) (F7 6)=HH at*;generalize QL (Dl 6 zb)=TX at*;generalize EF=par at*;simp at q1 hJ;simp only[At 9,AE,AG,AL,AA 9 0,AA 9 1,Ab];simp;refine⟨_,_,(q1 _),?_⟩;simp;refine⟨_,_,q2,?_⟩;simp[AA 9 2,AB,AA 9 4,AD,AX 9,hJ]
 exact key.kill 0
end
theorem Uu {k:Int} (h:aB k=true):i64 k:=by simpa[aB,i64]using h
theorem cE:∀f args h x,oH f args h=some x→∀t,OKT t h→FX f args (t.ins Tryz.prog An h) x.1 (t.ins Tryz.prog An h++x.2):=by
 intro f args h x hx t hk;unfold oH at hx;split at hx
 ·rename_i hf;subst hf;split at hx
  ·simp only[qF]at hx;subst hx;have ht:t=[]:=by
    cases t with
    |nil=>rfl
    |cons y t=>have:=hk.dead y.1 (by simp[Lp.has]);simp at this
   subst ht;exact p9
  ·cases hx
 ·split at hx
  ·rename_i hf;subst hf;split at hx
   ·rename_i r;split at hx
    ·rename_i m hr;have hr':=hk.get (P:=Tryz.prog) (GL:=An) hr (by simp);split at hx
     ·rename_i st ck hm;have hm':=hk.get (P:=Tryz.prog) (GL:=An) hm (by simp);simp only[qF]at hx;subst hx;simpa using dQ (ks:=[]) hr' hm' rfl (by simp) (by simp)
     ·rename_i k v st ck hm;have hm':=hk.get (P:=Tryz.prog) (GL:=An) hm (by simp);split at hx
      ·rename_i hk2;simp only[qF]at hx;subst hx;simpa using dQ (ks:=[k]) hr' hm' rfl (by simp) (by simpa using Uu hk2)
      ·cases hx
     ·cases hx
    ·cases hx
   ·cases hx
  ·cases hx
theorem pW:PX 20 [] [.bool true]:=GM QJ cE oB
def im (ps:List V) (bs:List Bool):Row:= .cells (.own 22 1 ps::bs.map bv)
def fw (n:Nat) (bs:List Bool) (c d:Int):Bool:=decide (0≤c∧c <n)&&(decide (0≤d∧d <n)&&(bs[(c*64+d).toNat]?).getD false)
section
mutual
def F.hold (I:Int→Int→Bool):F→Th→Bool
 | .mk op n ins kids,t=>
  if op=1 then t.cs.any λc=>I c n
  else if op=2 then (QS t n).isSome&&U7 ins (MP t n).1 (MP t n).2
  else if op=3 then t.ps.any λp=>F.hold1 I kids p
  else if op=4 then F.holdA I kids t
  else if op=5 then F.holdO I kids t
  else if op=6 then !F.hold1 I kids t
  else true
def F.hold1 (I:Int→Int→Bool):List F→Th→Bool|[],_=>false|k::_,t=>k.hold I t
def F.holdA (I:Int→Int→Bool):List F→Th→Bool|[],_=>true|k::ks,t=>k.hold I t&&F.holdA I ks t
def F.holdO (I:Int→Int→Bool):List F→Th→Bool|[],_=>false|k::ks,t=>k.hold I t||F.holdO I ks t
end
theorem NE (I:Int→Int→Bool) (t:Th):∀l,F.holdA I l t=l.all λk=>k.hold I t
 |[]=>rfl
 |k::ks=>by simp[F.holdA,NE I t ks]
theorem ND (I:Int→Int→Bool) (t:Th):∀l,F.holdO I l t=l.any λk=>k.hold I t
 |[]=>rfl
 |k::ks=>by simp[F.holdO,ND I t ks]
variable {h:List Row}
theorem Low.apps {X:List Row} (hl:Low h) (hx:∀row∈X,Row.low (h.length+X.length) row=true):Low (h++X):=by
 intro row hrow;rw[qG];rcases qW.1 hrow with h1|h1
 ·exact JS (Nat.le_add_right _ _) row (hl row h1)
 ·exact hx row h1
theorem R2 (n:Nat) (t:Th):Row.low n (.cells t.cells)=true:=by
 obtain⟨cs,vs,ps⟩:=t;simp[Th.cells,Row.low,D.lts,D.lt,AH]
section
variable {ps:List V} {bs:List Bool} {H:List Row} {a b x:Nat}
end
end
open Go.Proofs
section
def FQ (r:Rgt) (how by_:Int):Rgt:=
 let h:=Aj how 10
 if h=0 then {r with file:=by_}
 else if h=1 then {r with state:=by_}
 else if h=2 then {r with force:=by_}
 else if h=3 then {r with claims:=r.claims++[⟨[by_],.mk 0 0 [] []⟩]}
 else if h=4 then {r with dates:=r.dates++[⟨(r.claims.length:Int)-1,by_,0,0⟩]}
 else if h=5 then {r with dates:=r.dates++[⟨by_,63,by_,0⟩]}
 else if h=6 then {r with bad:=r.bad++[by_]}
 else if h=7 then {r with owners:=r.owners++[⟨by_,1,1⟩]}
 else if h=8 then {r with owners:=r.owners++[⟨4095,by_,2⟩]}
 else {r with lics:=r.lics++[⟨1,2,5,by_⟩]}
variable {m:Nat}
theorem Of {r:Rgt} (h:r.tiny m) (hm:m≤2^40) (how by_:Int) (hb:i64 by_):(FQ r how by_).tiny (m+1):=by
 have h0:=h.lc;have h1:=h.ld;have h2:=h.lb;have h3:=h.lo;have h4:=h.ll;have hcl:∀c∈r.claims++[⟨[by_],.mk 0 0 [] []⟩],c.tiny:=by
  intro c hc;rcases qW.1 hc with hc|hc
  ·exact h.claims c hc
  ·simp only[qO]at hc;subst hc;exact⟨by simpa using hb,by simp,(F8 (m:=0) (by simp[i64]) (by simp)).mono (by simp)⟩
 have ap:∀ {α:Type} {P:α→Prop} {l:List α} {x:α},(∀y∈l,P y)→P x→∀y∈l++[x],P y:=by
  intro α P l x h1 h2 y hy;rcases qW.1 hy with hy|hy
  ·exact h1 y hy
  ·simp only[qO]at hy;subst hy;exact h2
 have z:i64 0:=by simp[i64]
 unfold FQ;simp only
 repeat' split
 ·exact⟨hb,h.state,h.force,h.claims,h.dates,h.bad,h.owners,h.lics,by simp only;omega,by simp only;omega,by simp only;omega,by simp only;omega,by simp only;omega⟩
 ·exact⟨h.file,hb,h.force,h.claims,h.dates,h.bad,h.owners,h.lics,by simp only;omega,by simp only;omega,by simp only;omega,by simp only;omega,by simp only;omega⟩
 ·exact⟨h.file,h.state,hb,h.claims,h.dates,h.bad,h.owners,h.lics,by simp only;omega,by simp only;omega,by simp only;omega,by simp only;omega,by simp only;omega⟩
 ·exact⟨h.file,h.state,h.force,hcl,h.dates,h.bad,h.owners,h.lics,by simpa using h0,by simp only;omega,by simp only;omega,by simp only;omega,by simp only;omega⟩
 ·exact⟨h.file,h.state,h.force,h.claims,ap h.dates ⟨by unfold i64;simp only;omega,hb,z,z⟩,h.bad,h.owners,h.lics,by simp only;omega,by simpa using h1,by simp only;omega,by simp only;omega,by simp only;omega⟩
 ·exact⟨h.file,h.state,h.force,h.claims,ap h.dates ⟨hb,by simp[i64],hb,z⟩,h.bad,h.owners,h.lics,by simp only;omega,by simpa using h1,by simp only;omega,by simp only;omega,by simp only;omega⟩
 ·exact⟨h.file,h.state,h.force,h.claims,h.dates,ap h.bad hb,h.owners,h.lics,by simp only;omega,by simp only;omega,by simpa using h2,by simp only;omega,by simp only;omega⟩
 ·exact⟨h.file,h.state,h.force,h.claims,h.dates,h.bad,ap h.owners ⟨hb,by simp[i64],by simp[i64]⟩,h.lics,by simp only;omega,by simp only;omega,by simp only;omega,by simpa using h3,by simp only;omega⟩
 ·exact⟨h.file,h.state,h.force,h.claims,h.dates,h.bad,ap h.owners ⟨by simp[i64],hb,by simp[i64]⟩,h.lics,by simp only;omega,by simp only;omega,by simp only;omega,by simpa using h3,by simp only;omega⟩
 ·exact⟨h.file,h.state,h.force,h.claims,h.dates,h.bad,h.owners,ap h.lics ⟨by simp[i64],by simp[i64],by simp[i64],hb⟩,by simp only;omega,by simp only;omega,by simp only;omega,by simp only;omega,by simpa using h4⟩
theorem aG (l:List Dat):BG 4 (l.map Dat.V)=true:=by cases l<;>rfl
theorem aE (l:List Own):BG 3 (l.map Own.V)=true:=by cases l<;>rfl
theorem aF (l:List Lic):BG 4 (l.map Lic.V)=true:=by cases l<;>rfl
theorem aH (l:List Clm):BG 5 (l.map Clm.V)=true:=by cases l<;>rfl
theorem pZ (r:Rgt) (ht:r.tiny m) (hm:m≤2^20) (how by_:Int):PX 12 [r.V,.int .i64 how,.int .i64 by_] [(FQ r how by_).V]:=by
 refine BU 12 ?_;have p1:=(MW how 10 (by decide)).fsp;have r0:=ht.lc;have r1:=ht.ld;have r2:=ht.lb;have r3:=ht.lo;have r4:=ht.ll;have b0:AK (r.claims.length+1) 88=true:=by simp[AK];omega
 have b1:AK (r.dates.length+1) 32=true:=by simp[AK];omega
 have b2:AK (r.bad.length+1) 8=true:=by simp[AK];omega
 have b3:AK (r.owners.length+1) 24=true:=by simp[AK];omega
 have b4:AK (r.lics.length+1) 32=true:=by simp[AK];omega
 have d0:AK r.claims.length 88=true:=by simp[AK];omega
 have d1:AK r.dates.length 32=true:=by simp[AK];omega
 have d2:AK r.bad.length 8=true:=by simp[AK];omega
 have d3:AK r.owners.length 24=true:=by simp[AK];omega
 have d4:AK r.lics.length 32=true:=by simp[AK];omega
 have w1:IntKind.i64.wrap ((r.claims.length:Int)-1)=r.claims.length-1:=AQ;have hs:FQ r how by_=FQ r how by_:=rfl;obtain⟨S,hS⟩:∃S,FQ r how by_=S:=⟨_,rfl⟩;rw[hS];unfold FQ at hS;generalize Aj how 10=h at*;simp at p1;simp only[At 12,AE,AG,AU,AA 12 0,AA 12 1,AV];simp[Rgt.V,Rgt.cs,AH,AS,d1,aG];simp[AA 12 2,d2];simp[AA 12 3,d3,aE];simp[AA 12 4,d4,aF,AA 12 5];refine⟨_,_,p1 _,?_⟩;simp only[AE,AG,AL,AA 12 7];simp;by_cases h0:h=0
 ·subst h0;simp at hS;subst hS;simp[AA 12 8,AS,AA 12 25,AD,AX 12,D.vs?,D.v?]
 by_cases h1:h=1
 ·subst h1;simp at hS;subst hS;simp[AA 12 9,AA 12 10,AS,AA 12 25,AD,AX 12,D.vs?,D.v?]
 by_cases h2:h=2
 ·subst h2;simp at hS;subst hS;simp[AA 12 9,AA 12 11,AA 12 12,AS,AA 12 25,AD,AX 12,D.vs?,D.v?]
 by_cases h3:h=3
 ·subst h3;simp at hS;subst hS;simp[AA 12 9,AA 12 11,AA 12 13,AA 12 14,AS,b0,d0,aH,AA 12 25,AD,AX 12,D.vs?,D.v?,Clm.V,F.op,F.n,F.ins,F.kids,AH]
 by_cases h4:h=4
 ·subst h4;simp at hS;subst hS;simp[AA 12 9,AA 12 11,AA 12 13,AA 12 15,AA 12 16,AS,b1,w1,AA 12 25,AD,AX 12,D.vs?,D.v?,Dat.V]
 by_cases h5:h=5
 ·subst h5;simp at hS;subst hS;simp[AA 12 9,AA 12 11,AA 12 13,AA 12 15,AA 12 17,AA 12 18,AS,b1,AA 12 25,AD,AX 12,D.vs?,D.v?,Dat.V]
 by_cases h6:h=6
 ·subst h6;simp at hS;subst hS;simp[AA 12 9,AA 12 11,AA 12 13,AA 12 15,AA 12 17,AA 12 19,AA 12 20,AS,b2,AA 12 25,AD,AX 12,D.vs?,D.v?]
 by_cases h7:h=7
 ·subst h7;simp at hS;subst hS;simp[AA 12 9,AA 12 11,AA 12 13,AA 12 15,AA 12 17,AA 12 19,AA 12 21,AA 12 22,AS,b3,AA 12 25,AD,AX 12,D.vs?,D.v?,Own.V]
 by_cases h8:h=8
 ·subst h8;simp at hS;subst hS;simp[AA 12 9,AA 12 11,AA 12 13,AA 12 15,AA 12 17,AA 12 19,AA 12 21,AA 12 23,AA 12 24,AS,b3,AA 12 25,AD,AX 12,D.vs?,D.v?,Own.V]
 simp[h0,h1,h2,h3,h4,h5,h6,h7,h8]at hS;subst hS;simp[h0,h1,h2,h3,h4,h5,h6,h7,h8,AA 12 9,AA 12 11,AA 12 13,AA 12 15,AA 12 17,AA 12 19,AA 12 21,AA 12 23,AA 12 6,AS,b4,AA 12 25,AD,AX 12,D.vs?,D.v?,Lic.V]
end
section
variable {k:Nat}
theorem Cw {α:Type} {l:List α} {x:α} (h:l[k]?=some x) (f:α→V):(l.map f).take (k+1)=(l.map f).take k++[f x]:=by
 rw[qc,qZ,h];rfl
theorem Ns {α:Type} (l:List α) (f:α→V):(l.map f).take l.length=l.map f:=qw (by simp)
def gw (a b c:Nat):List GI:=[⟨none,.box 1 (.t 0 false)⟩,
 ⟨none,.alloc 2 [.v (.int .i64 0),.v (.int .i64 0),.v (.int .i64 0),.own 130 5 [],.own a 4 [],.own 3 1 [],.own b 3 [],.own c 4 []]⟩]
def gv (a b c:Nat):List GI:=[⟨none,.p 8 (.faddr (.t 1 false) 0 1)⟩,
 ⟨none,.p 9 (.load (.t 8 false) 1 false)⟩,
 ⟨none,.p 10 (.faddr (.t 1 false) 1 1)⟩,
 ⟨none,.p 11 (.load (.t 10 false) 1 false)⟩,
 ⟨none,.p 12 (.faddr (.t 1 false) 2 1)⟩,
 ⟨none,.p 13 (.load (.t 12 false) 1 false)⟩,
 ⟨none,.p 14 (.faddr (.t 1 false) 3 1)⟩,
 ⟨none,.p 15 (.load (.t 14 false) 1 false)⟩,
 ⟨none,.p 16 (.faddr (.t 1 false) 5 1)⟩,
 ⟨none,.p 17 (.load (.t 16 false) 1 false)⟩,
 ⟨none,.p 18 (.build [.v (.int .i64 0),.v (.int .i64 0),.v (.int .i64 0),.nil 130 5,.nil a 4,.nil 3 1,.nil b 3,.nil c 4] [(0,1,(.t 9 false)),(1,1,(.t 11 false)),(2,1,(.t 13 false)),(3,1,(.t 15 false)),(5,1,(.t 17 false))])⟩,
 ⟨none,.alloc 3 [.v (.int .i64 0),.v (.int .i64 0),.v (.int .i64 0),.own 130 5 [],.own a 4 [],.own 3 1 [],.own b 3 [],.own c 4 []]⟩,
 ⟨none,.store (.t 3 false) (.t 18 false) 8⟩]
def gu:List GI:=[⟨none,.mv 4 (.c (.v (.int .i64 0)))⟩]
def gt:List GI:=[⟨none,.mv 19 (.t 4 false)⟩,
 ⟨none,.p 20 (.faddr (.t 1 false) 4 1)⟩,
 ⟨none,.p 21 (.load (.t 20 false) 1 false)⟩,
 ⟨none,.p 22 (.alen (.t 21 false))⟩,
 ⟨none,.p 23 (.bin .lss (.t 19 false) (.t 22 false))⟩]
def gq (a:Nat):List GI:=[⟨none,.p 26 (.faddr (.t 3 false) 4 1)⟩,
 ⟨none,.take 27 (.t 26 false)⟩,
 ⟨none,.p 28 (.faddr (.t 1 false) 4 1)⟩,
 ⟨none,.p 29 (.load (.t 28 false) 1 false)⟩,
 ⟨none,.mv 30 (.t 4 false)⟩,
 ⟨none,.p 31 (.iaddr (.t 29 false) (.t 30 false) 4)⟩,
 ⟨none,.p 32 (.faddr (.t 31 false) 0 2)⟩,
 ⟨none,.p 33 (.load (.t 32 false) 2 true)⟩,
 ⟨none,.p 34 (.faddr (.t 1 false) 4 1)⟩,
 ⟨none,.p 35 (.load (.t 34 false) 1 false)⟩,
 ⟨none,.mv 36 (.t 4 false)⟩,
 ⟨none,.p 37 (.iaddr (.t 35 false) (.t 36 false) 4)⟩,
 ⟨none,.p 38 (.faddr (.t 37 false) 2 1)⟩,
 ⟨none,.p 39 (.load (.t 38 false) 1 false)⟩,
 ⟨none,.p 40 (.faddr (.t 1 false) 4 1)⟩,
 ⟨none,.p 41 (.load (.t 40 false) 1 false)⟩,
 ⟨none,.mv 42 (.t 4 false)⟩,
 ⟨none,.p 43 (.iaddr (.t 41 false) (.t 42 false) 4)⟩,
 ⟨none,.p 44 (.faddr (.t 43 false) 3 1)⟩,
 ⟨none,.p 45 (.load (.t 44 false) 1 false)⟩,
 ⟨none,.p 46 (.build [.v (.int .i64 0),.v (.int .i64 0),.v (.int .i64 0),.v (.int .i64 0)] [(0,2,(.t 33 false)),(2,1,(.t 39 false)),(3,1,(.t 45 false))])⟩,
 ⟨none,.bsl 47 a 4 [(.t 46 false)]⟩,
 ⟨none,.app 48 (.t 27 true) (.t 47 false) a 4 32⟩,
 ⟨none,.p 49 (.faddr (.t 3 false) 4 1)⟩,
 ⟨none,.store (.t 49 false) (.t 48 true) 1⟩]
def gr:List GI:=[⟨none,.mv 24 (.t 4 false)⟩,
 ⟨none,.p 25 (.bin .add (.t 24 false) (.c (.v (.int .i64 1))))⟩,
 ⟨none,.mv 4 (.t 25 false)⟩]
def bI (a:Nat):AC:=(.seq (.seq (.reg gt [1,2,3,4,23]) (.cond (.t 23 false) .skip (.exit 0))) (.seq (.block 1 (.regD (gq a) [1,2,3,4] [[],[0],[],[2],[],[2,3,4],[2,3,4,5],[2,3,4,5,6],[],[8],[],[8,9,10],[8,9,10,11],[8,9,10,11,12],[],[14],[],[14,15,16],[14,15,16,17],[14,15,16,17,18],[2,3,4,5,6,7,8,9,10,11,12,13,14,15,16,17,18,19],[2,3,4,5,6,7,8,9,10,11,12,13,14,15,16,17,18,19,20],[0,1,2,3,4,5,6,7,8,9,10,11,12,13,14,15,16,17,18,19,20,21],[0,1,2,3,4,5,6,7,8,9,10,11,12,13,14,15,16,17,18,19,20,21,22],[0,1,2,3,4,5,6,7,8,9,10,11,12,13,14,15,16,17,18,19,20,21,22,23]])) (.reg gr [1,2,3,4])))
def gp:List GI:=[⟨none,.mv 5 (.c (.v (.int .i64 0)))⟩]
def gn:List GI:=[⟨none,.mv 50 (.t 5 false)⟩,
 ⟨none,.p 51 (.faddr (.t 1 false) 6 1)⟩,
 ⟨none,.p 52 (.load (.t 51 false) 1 false)⟩,
 ⟨none,.p 53 (.alen (.t 52 false))⟩,
 ⟨none,.p 54 (.bin .lss (.t 50 false) (.t 53 false))⟩]
def gl (b:Nat):List GI:=[⟨none,.p 57 (.faddr (.t 3 false) 6 1)⟩,
 ⟨none,.take 58 (.t 57 false)⟩,
 ⟨none,.p 59 (.faddr (.t 1 false) 6 1)⟩,
 ⟨none,.p 60 (.load (.t 59 false) 1 false)⟩,
 ⟨none,.mv 61 (.t 5 false)⟩,
 ⟨none,.p 62 (.iaddr (.t 60 false) (.t 61 false) 3)⟩,
 ⟨none,.p 63 (.faddr (.t 62 false) 0 1)⟩,
 ⟨none,.p 64 (.load (.t 63 false) 1 false)⟩,
 ⟨none,.p 65 (.faddr (.t 1 false) 6 1)⟩,
 ⟨none,.p 66 (.load (.t 65 false) 1 false)⟩,
 ⟨none,.mv 67 (.t 5 false)⟩,
 ⟨none,.p 68 (.iaddr (.t 66 false) (.t 67 false) 3)⟩,
 ⟨none,.p 69 (.faddr (.t 68 false) 1 2)⟩,
 ⟨none,.p 70 (.load (.t 69 false) 2 true)⟩,
 ⟨none,.p 71 (.build [.v (.int .i64 0),.v (.int .i64 0),.v (.int .i64 0)] [(0,1,(.t 64 false)),(1,2,(.t 70 false))])⟩,
 ⟨none,.bsl 72 b 3 [(.t 71 false)]⟩,
 ⟨none,.app 73 (.t 58 true) (.t 72 false) b 3 24⟩,
 ⟨none,.p 74 (.faddr (.t 3 false) 6 1)⟩,
 ⟨none,.store (.t 74 false) (.t 73 true) 1⟩]
def gm:List GI:=[⟨none,.mv 55 (.t 5 false)⟩,
 ⟨none,.p 56 (.bin .add (.t 55 false) (.c (.v (.int .i64 1))))⟩,
 ⟨none,.mv 5 (.t 56 false)⟩]
def bG (b:Nat):AC:=(.seq (.seq (.reg gn [1,2,3,5,54]) (.cond (.t 54 false) .skip (.exit 2))) (.seq (.block 3 (.regD (gl b) [1,2,3,5] [[],[0],[],[2],[],[2,3,4],[2,3,4,5],[2,3,4,5,6],[],[8],[],[8,9,10],[8,9,10,11],[8,9,10,11,12],[2,3,4,5,6,7,8,9,10,11,12,13],[2,3,4,5,6,7,8,9,10,11,12,13,14],[0,1,2,3,4,5,6,7,8,9,10,11,12,13,14,15],[0,1,2,3,4,5,6,7,8,9,10,11,12,13,14,15,16],[0,1,2,3,4,5,6,7,8,9,10,11,12,13,14,15,16,17]])) (.reg gm [1,2,3,5])))
def Y8:List GI:=[⟨none,.mv 6 (.c (.v (.int .i64 0)))⟩]
def Y7:List GI:=[⟨none,.mv 75 (.t 6 false)⟩,
 ⟨none,.p 76 (.faddr (.t 1 false) 7 1)⟩,
 ⟨none,.p 77 (.load (.t 76 false) 1 false)⟩,
 ⟨none,.p 78 (.alen (.t 77 false))⟩,
 ⟨none,.p 79 (.bin .lss (.t 75 false) (.t 78 false))⟩]
def Y5:List GI:=[⟨none,.p 82 (.faddr (.t 1 false) 7 1)⟩,
 ⟨none,.p 83 (.load (.t 82 false) 1 false)⟩,
 ⟨none,.mv 84 (.t 6 false)⟩,
 ⟨none,.p 85 (.iaddr (.t 83 false) (.t 84 false) 4)⟩,
 ⟨none,.p 86 (.load (.t 85 false) 4 true)⟩,
 ⟨none,.alloc 7 [.v (.int .i64 0),.v (.int .i64 0),.v (.int .i64 0),.v (.int .i64 0)]⟩,
 ⟨none,.store (.t 7 false) (.t 86 false) 4⟩]
def Y4 (c:Nat):List GI:=[⟨none,.p 87 (.faddr (.t 3 false) 7 1)⟩,
 ⟨none,.take 88 (.t 87 false)⟩,
 ⟨none,.p 89 (.faddr (.t 7 false) 0 1)⟩,
 ⟨none,.p 90 (.load (.t 89 false) 1 false)⟩,
 ⟨none,.p 91 (.faddr (.t 7 false) 1 1)⟩,
 ⟨none,.p 92 (.load (.t 91 false) 1 false)⟩,
 ⟨none,.p 93 (.faddr (.t 7 false) 2 1)⟩,
 ⟨none,.p 94 (.load (.t 93 false) 1 false)⟩,
 ⟨none,.p 95 (.faddr (.t 7 false) 3 1)⟩,
 ⟨none,.p 96 (.load (.t 95 false) 1 false)⟩,
 ⟨none,.p 97 (.build [.v (.int .i64 0),.v (.int .i64 0),.v (.int .i64 0),.v (.int .i64 0)] [(0,1,(.t 90 false)),(1,1,(.t 92 false)),(2,1,(.t 94 false)),(3,1,(.t 96 false))])⟩,
 ⟨none,.bsl 98 c 4 [(.t 97 false)]⟩,
 ⟨none,.app 99 (.t 88 true) (.t 98 false) c 4 32⟩,
 ⟨none,.p 100 (.faddr (.t 3 false) 7 1)⟩,
 ⟨none,.store (.t 100 false) (.t 99 true) 1⟩]
def Y6:List GI:=[⟨none,.mv 80 (.t 6 false)⟩,
 ⟨none,.p 81 (.bin .add (.t 80 false) (.c (.v (.int .i64 1))))⟩,
 ⟨none,.mv 6 (.t 81 false)⟩]
def bF (c:Nat):AC:=(.seq (.seq (.reg Y7 [1,2,3,6,79]) (.cond (.t 79 false) .skip (.exit 4))) (.seq (.block 5 (.seq (.reg Y5 [1,2,3,6,7]) (.reg (Y4 c) [1,2,3,6]))) (.reg Y6 [1,2,3,6])))
def Y3:List GI:=[⟨none,.p 101 (.load (.t 3 false) 8 true)⟩,
 ⟨none,.store (.t 2 false) (.t 101 false) 8⟩]
def cM (a b c:Nat):AC:=(.seq (.reg (gw a b c) [1,2]) (.seq (.reg (gv a b c) [1,2,3]) (.seq (.seq (.reg gu [1,2,3,4]) (.block 0 (.loop (bI a)))) (.seq (.seq (.reg gp [1,2,3,5]) (.block 2 (.loop (bG b)))) (.seq (.seq (.reg Y8 [1,2,3,6]) (.block 4 (.loop (bF c)))) (.seq (.reg Y3 [2]) .ret))))))
def iY:List AR:=[.c 2 8 true]
variable {n:Nat}
section
variable {a b c:Nat}
def Sr (a b c:Nat) (r:Rgt) (ds:List Dat) (os:List Own) (ls:List Lic):Row:=
 .cells [.v (.int .i64 r.file),.v (.int .i64 r.state),.v (.int .i64 r.force),.v (.list (r.claims.map Clm.V)),.own a 4 (ds.map Dat.V),.v (AH .i64 r.bad),.own b 3 (os.map Own.V),.own c 4 (ls.map Lic.V)]
theorem em (r:Rgt) (hn:r.dates.length≤2^30) (R1:Row) (os:List Own) (ls:List Lic):
  awp Tryz.prog An (.loop (bI a)) (λe s=>e= .exit 0∧AF s.e 1= .ref 0 0∧AF s.e 2= .ref 1 0∧AF s.e 3= .ref 2 0∧s.h=[r.row,R1,Sr a b c r r.dates os ls])
   ⟨[(1,.ref 0 0),(2,.ref 1 0),(3,.ref 2 0),(4,.v (.int .i64 0))],[r.row,R1,Sr a b c r [] os ls]⟩:=by
 refine AM r.dates.length (λk=>⟨[(1,.ref 0 0),(2,.ref 1 0),(3,.ref 2 0),(4,.v (.int .i64 k))],[r.row,R1,Sr a b c r (r.dates.take k) os ls]⟩) (by simp) ?_;intro k hk;simp only[Zw,bI,gt];simp[Rgt.row];by_cases hlt:k <r.dates.length
 ·obtain⟨x,hxk⟩:∃x,r.dates[k]?=some x:=⟨_,qH hlt⟩;have hxe:r.dates[k]=x:=(qK.1 hxk).2;have hw:=Bo k;have hroom:AK (k+1) 32=true:=by simp[AK];omega
  have ht:(r.dates.take k).length=k:=by simp;omega
  have hm:min k r.dates.length=k:=by omega
  have e:=Cw hxk Dat.V;rw[if_pos (by omega),AB];simp only[AW,gq];simp[hxk,Dat.V,Sr,AS,hm,hroom];simp[gr,hw,hlt,e,Dat.V]
 ·have:k=r.dates.length:=by omega
  subst this;rw[if_neg (by omega),AJ];simp
theorem ek (r:Rgt) (hn:r.owners.length≤2^30) (R1:Row) (ds:List Dat) (ls:List Lic):
  awp Tryz.prog An (.loop (bG b)) (λe s=>e= .exit 2∧AF s.e 1= .ref 0 0∧AF s.e 2= .ref 1 0∧AF s.e 3= .ref 2 0∧s.h=[r.row,R1,Sr a b c r ds r.owners ls])
   ⟨[(1,.ref 0 0),(2,.ref 1 0),(3,.ref 2 0),(5,.v (.int .i64 0))],[r.row,R1,Sr a b c r ds [] ls]⟩:=by
 refine AM r.owners.length (λk=>⟨[(1,.ref 0 0),(2,.ref 1 0),(3,.ref 2 0),(5,.v (.int .i64 k))],[r.row,R1,Sr a b c r ds (r.owners.take k) ls]⟩) (by simp) ?_;intro k hk;simp only[Zw,bG,gn];simp[Rgt.row];by_cases hlt:k <r.owners.length
 ·obtain⟨x,hxk⟩:∃x,r.owners[k]?=some x:=⟨_,qH hlt⟩;have hxe:r.owners[k]=x:=(qK.1 hxk).2;have hw:=Bo k;have hroom:AK (k+1) 24=true:=by simp[AK];omega
  have ht:(r.owners.take k).length=k:=by simp;omega
  have hm:min k r.owners.length=k:=by omega
  have e:=Cw hxk Own.V;rw[if_pos (by omega),AB];simp only[AW,gl];simp[hxk,Own.V,Sr,AS,hm,hroom];simp[gm,hw,hlt,e,Own.V]
 ·have:k=r.owners.length:=by omega
  subst this;rw[if_neg (by omega),AJ];simp
theorem ej (r:Rgt) (hn:r.lics.length≤2^30) (R1:Row) (ds:List Dat) (os:List Own):
  awp Tryz.prog An (.loop (bF c)) (λe s=>e= .exit 4∧AF s.e 1= .ref 0 0∧AF s.e 2= .ref 1 0∧AF s.e 3= .ref 2 0∧∃J,s.h=r.row::R1::Sr a b c r ds os r.lics::J)
   ⟨[(1,.ref 0 0),(2,.ref 1 0),(3,.ref 2 0),(6,.v (.int .i64 0))],[r.row,R1,Sr a b c r ds os []]⟩:=by
 refine Al r.lics.length (λk s=>s.e=[(1,.ref 0 0),(2,.ref 1 0),(3,.ref 2 0),(6,.v (.int .i64 k))]∧∃J,s.h=r.row::R1::Sr a b c r ds os (r.lics.take k)::J) ⟨by simp,[],by simp⟩ ?_;rintro k ⟨se,sh⟩ hk ⟨he,J2,hh⟩;simp only at he hh;subst he hh;simp only[Zw,bF,Y7];simp[Rgt.row];by_cases hlt:k <r.lics.length
 ·obtain⟨x,hxk⟩:∃x,r.lics[k]?=some x:=⟨_,qH hlt⟩;have hxe:r.lics[k]=x:=(qK.1 hxk).2;have hw:=Bo k;have hroom:AK (k+1) 32=true:=by simp[AK];omega
  have ht:(r.lics.take k).length=k:=by simp;omega
  have hm:min k r.lics.length=k:=by omega
  have e:=Cw hxk Lic.V;rw[if_pos (by omega),AB];simp only[Y5];simp[hxk,Lic.V,Sr,AS];simp only[Y4];simp[AS,hm,hroom];simp[Y6,hw,hlt,e,Lic.V]
 ·have:k=r.lics.length:=by omega
  subst this;rw[if_neg (by omega),AJ];simp
theorem pM (hk:Cq Tryz.prog An n 1 (cM a b c) iY=true) (r:Rgt) (hr:r.ok):PX n [r.V] [r.V]:=by
 refine Gg hk rfl ?_;simp only[cM,AE,AG,AU,gw,gv,AV];simp[Rgt.V,Rgt.cs,AS,gu];have q0:=λR1=>em (a:=a) (b:=b) (c:=c) r hr.ld R1 [] [];have q1:=λR1=>ek (a:=a) (b:=b) (c:=c) r hr.lo R1 r.dates [];have q2:=λR1=>ej (a:=a) (b:=b) (c:=c) r hr.ll R1 r.dates r.owners;simp only[Sr,Rgt.row,rW]at q0 q1 q2;refine AZ _ ?_ (q0 _);rintro e ⟨se,sh⟩ ⟨rfl,f1,f2,f3,hh⟩;simp only at f1 f2 f3 hh;subst hh;simp[gp,f1,f2,f3];refine AZ _ ?_ (q1 _);rintro e ⟨se,sh⟩ ⟨rfl,f1,f2,f3,hh⟩;simp only at f1 f2 f3 hh;subst hh;simp[Y8,f1,f2,f3];refine AZ _ ?_ (q2 _);rintro e ⟨se,sh⟩ ⟨rfl,f1,f2,f3,J,hh⟩;simp only at f1 f2 f3 hh;subst hh;simp[Y3,f2,f3,AD,iY,D.vs?,D.v?,AS,AH]
end
theorem pz:Cq Tryz.prog An 53 1 (cM 88 246 247) iY=true:=by kernel_rfl
theorem pN (r:Rgt) (hr:r.ok):PX 53 [r.V] [r.V]:=pM pz r hr
theorem pY (l:List Rgt) (hl:∀r∈l,r.ok) (hn:l.length≤2^30):PX 14 [.list (l.map Rgt.V)] [.list (l.map Rgt.V)]:=by
 refine BU 14 ?_;simp only[At 14,AE,AG,AU,AA 14 0,AA 14 1,AA 14 2,AV];simp;refine AM l.length (λk=>⟨[(0,.v (.list (l.map Rgt.V))),(3,.own 74 8 ((l.take k).map Rgt.V)),(4,.v (.int .i64 k))],[]⟩) (by simp) ?_;intro k hk;simp only[Zw,BA 14 0,AA 14 3];simp;by_cases hlt:k <l.length
 ·obtain⟨x,hxk⟩:∃x,l[k]?=some x:=⟨_,qH hlt⟩;have hxe:l[k]=x:=(qK.1 hxk).2;have hw:=Bo k;have hroom:AK (k+1) 144=true:=by simp[AK];omega
  have hm:min k l.length=k:=by omega
  have e:=Cw hxk Rgt.V;have p1:=(pN x (hl x (qJ hxk))).fsp;rw[if_pos (by omega),AB];simp only[AA 14 5];simp[Rgt.V,Rgt.cs]at p1;simp[hxk,Rgt.V,Rgt.cs];refine⟨_,_,p1 _,?_⟩;simp[hm,hroom,AA 14 4,hw,hlt,e,Rgt.V,Rgt.cs]
 ·have:k=l.length:=by omega
  subst this;rw[if_neg (by omega),AJ];simp[AA 14 6,AD,AX 14,Ns]
end
def oM:TL:=[te 260,te 311,te 331]
theorem ZQ:oM.all ck=true:=by kernel_rfl
def qE (f:Nat):Option (Nat×AC×List AR):=PU oM f
theorem jk:∀a b:Int,0≤a→a <6→0≤b→b <6→PX 311 [.list (EF.map (AH .i64)),.int .i64 a,.int .i64 b] [.bool (fw 6 (Dl 6 zb) a b)]:=by
 intro a b h1 h2 h3 h4;have ha:a=0∨a=1∨a=2∨a=3∨a=4∨a=5:=by omega
 have hb:b=0∨b=1∨b=2∨b=3∨b=4∨b=5:=by omega
 rcases ha with rfl|rfl|rfl|rfl|rfl|rfl<;>rcases hb with rfl|rfl|rfl|rfl|rfl|rfl
 all_goals exact GM (T:=qE) (Pr:=iO) (fuel:=200) (λf n ac rs h=>PS ZQ f n ac rs h) (λf args h x hx=>by cases hx) (by kernel_rfl)
end Go.Va
