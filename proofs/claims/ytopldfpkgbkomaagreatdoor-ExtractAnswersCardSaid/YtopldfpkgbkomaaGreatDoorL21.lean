/- Laws that ExtractAnswers leans on, part 21. No condition of its own. -/
import Derived.Test.YtopldfpkgbkomaaGreatDoorL10
import Derived.Test.YtopldfpkgbkomaaGreatDoorL11
import Derived.Test.YtopldfpkgbkomaaGreatDoorL18
import Derived.Test.YtopldfpkgbkomaaGreatDoorL19
set_option linter.all false
set_option maxRecDepth 100000
set_option maxHeartbeats 4000000
noncomputable section
namespace Go.Va
open Go.Proofs
section
def G2 (r:Rgt):Int×List Int:=(r.file,Be r)
def Hi (l:List Rgt):KM:=l.foldl (λK r=>K.set r.file (Be r)) ⟨[],[],0⟩
def Qk (l:List Rgt):HM:=l.foldl (λm r=>IG 12 0 r.file (FC r.file (Be r)) m) ⟨[],[],0⟩
def Dt (l:List Rgt) (k:Nat):Int:=
 match l[k]? with
 |none=>0
 |some r=>if Aw r then (if (l.take k).any (λq=>q.file==r.file) then 8 else Eo r.file (Be r)) else 1
variable {k:Nat}
theorem Kf {l:List Rgt} {r:Rgt} (h:l[k]?=some r):Dt l k=if Aw r then (if (l.take k).any (λq=>q.file==r.file) then 8 else Eo r.file (Be r)) else 1:=by simp[Dt,h]
theorem M9 {l:List Rgt} {r:Rgt} (h:l[k]?=some r) (h0:Dt l k=0):Aw r=true∧(l.take k).any (λq=>q.file==r.file)=false∧Eo r.file (Be r)=0:=by
 rw[Kf h]at h0;cases hf:Aw r with
 |false=>rw[hf]at h0;simp at h0
 |true=>
  cases ha:(l.take k).any (λq=>q.file==r.file)with
  |true=>rw[hf,ha]at h0;simp at h0
  |false=>rw[hf,ha]at h0;simp at h0;exact⟨rfl,rfl,h0⟩
theorem Di {α:Type} {l:List α} {x:α} (h:l[k]?=some x):l.take (k+1)=l.take k++[x]:=by rw[oW,h];rfl
theorem LK (l:List Rgt) (r:Rgt):Hi (l++[r])=(Hi l).set r.file (Be r):=by simp[Hi]
theorem OZ (l:List Rgt) (r:Rgt):Qk (l++[r])=IG 12 0 r.file (FC r.file (Be r)) (Qk l):=by simp[Qk]
theorem FK (l:List Rgt) (k:Int):(l.map G2).findIdx? (λx=>x.1==k)=none↔l.any (λq=>q.file==k)=false:=by
 rw[qf,pu];simp[G2]
theorem S6 {l:List Rgt}:∀k≤l.length,(∀j <k,Dt l j=0)→(Hi (l.take k)).E=(l.take k).map G2
 |0,_,_=>by simp[Hi]
 |k+1,hk,h=>by
  obtain⟨r,hr⟩:∃r,l[k]?=some r:=⟨_,oI (by omega)⟩;have ih:=S6 k (by omega) λj hj=>h j (by omega);obtain⟨h1,h2,h3⟩:=M9 hr (h k (by omega));rw[Di hr,LK,KM.set,ih,(FK _ _).2 h2];simp[G2]
theorem OU (ps:List (Int×List Int)) (k:Int) (v:List Int) (h:ps.findIdx? (λx=>x.1==k)=none):DV (ps++[(k,v)])=upd (DV ps) k (FC k v):=by
 funext x
 rw[qf]at h;simp only[DV,upd,List.find?_append];by_cases hx:x=k
 ·subst hx;have:ps.find? (λp=>p.1==x)=none:=rp.2 λp hp=>by have:=h p hp;simpa using this
  simp[this]
 ·have:([(k,v)]:List (Int×List Int)).find? (λp=>p.1==x)=none:=by simp;exact λe=>hx e.symm
  rw[this,if_neg hx,Option.or_none]
theorem NN {l:List Rgt}:∀k≤l.length,(∀j <k,Dt l j=0)→HW (DV ((l.take k).map G2)) (Qk (l.take k))
 |0,_,_=>by
  intro a ha n;have e:DV ((l.take 0).map G2)=λ_=>none:=by funext x;simp[DV]
  rw[e];have hb:∀a:Nat,∀n:Int,bH (λ_=>none) a n=none:=by
   intro a n;cases hb:bH (λ_=>none) a n with
   |none=>rfl
   |some v=>
    obtain⟨k,_,_,h3⟩:=(Ng (λ_=>none) a n).1 (by rw[hb];rfl);simp at h3
  rw[hb];simp[Qk,HM.get,Br]
 |k+1,hk,h=>by
  obtain⟨r,hr⟩:∃r,l[k]?=some r:=⟨_,oI (by omega)⟩;have ih:=NN k (by omega) λj hj=>h j (by omega);obtain⟨h1,h2,h3⟩:=M9 hr (h k (by omega));rw[Di hr,OZ,oh,List.map_singleton];have:G2 r=(r.file,Be r):=rfl;rw[this,OU _ _ _ ((FK _ _).2 h2)];exact Uk ih r.file (FC r.file (Be r))
theorem nT (h:List Row) (x t q:Nat) (d d2 d3:D) (m:HM) (hx:h[x]?=some (.cells [d,d2,.ref t 0])) (ht:h[t]?=some (.cells [d3,.mref q])) (hq:h[q]?=some m.row):
  FX 17 [.ref x 0] h [.v (.int .u64 ((m.get (12,0)).getD 0))] h:=by
 refine Dh 17 ?_;have p1:=nB h t q m d3 ht hq;simp only[Ai 17,AE,AF,AA 17 0,AA 17 1,AQ];simp[hx];refine⟨_,_,p1,?_⟩;simp[AB,AW 17]
theorem nR (h:List Row) (x q:Nat) (d d3:D) (K:KM) (hx:h[x]?=some (.cells [d,.mref q,d3])) (hq:h[q]?=some K.row):
  FX 19 [.ref x 0] h [.v (.int .i64 K.E.length)] h:=by
 refine Dh 19 ?_;simp only[Ai 19,AE,AF,AA 19 0,AA 19 1,AQ];have hq':h[q]?=some (.map (K.E.map Gg) K.st K.ck):=hq;simp[hx,hq',AB,AW 19]
end
section
def D8 (d:D) (n:Nat) (l:List Rgt):List Row:=[(Hi l).row,(Hi l).row,(Qk l).row,.cells [.mref (n+1),.mref (n+2)],.cells [d,.mref n,.ref (n+3) 0]]
def PN (h:List Row) (d:D) (l:List Rgt) (H:List Row):Prop:=∃J,H=h++(D8 d h.length l++J)∧∀row∈J,∀n,row.low n=true
theorem Ue (r:Rgt) (n:Nat):r.row.low n=true:=by simp[Rgt.row,Row.low,D.lts,D.lt]
theorem PN.low {h H:List Row} {d:D} {l:List Rgt} (hp:PN h d l H) (hd:D.lt h.length d=true) (hl:∀row∈h,row.low h.length=true):∀row∈H,row.low H.length=true:=by
 obtain⟨J,rfl,hJ⟩:=hp;have hlen:h.length+5≤(h++(D8 d h.length l++J)).length:=by simp[D8]
 intro row hrow;rcases oc.1 hrow with hrow|hrow
 ·exact Row.low_mono (by omega) (hl row hrow)
 rcases oc.1 hrow with hrow|hrow
 ·refine Row.low_mono hlen ?_;simp only[D8,oO,o7,or_false]at hrow;rcases hrow with rfl|rfl|rfl|rfl|rfl
  ·rfl
  ·rfl
  ·rfl
  ·simp[Row.low,D.lts,D.lt]
  ·simp[Row.low,D.lts,D.lt];exact Eb (by omega) d hd
 ·exact hJ row hrow _
variable {d:D} {H h:List Row}
theorem PN.get {l:List Rgt} (hp:PN h d l H):H[h.length]?=some (Hi l).row∧H[h.length+1]?=some (Hi l).row∧H[h.length+2]?=some (Qk l).row∧
  H[h.length+3]?=some (.cells [.mref (h.length+1),.mref (h.length+2)])∧H[h.length+4]?=some (.cells [d,.mref h.length,.ref (h.length+3) 0]):=by
 obtain⟨J,rfl,hJ⟩:=hp;simp[D8]
theorem PN.app {l:List Rgt} (hp:PN h d l H) (r:Rgt):PN h d l (H++[r.row]):=by
 obtain⟨J,rfl,hJ⟩:=hp;refine⟨J++[r.row],by simp,λrow hrow n=>?_⟩;rcases oc.1 hrow with hrow|hrow
 ·exact hJ row hrow n
 ·simp only[oS]at hrow;subst hrow;exact Ue r n
theorem PN.set {h H:List Row} {d:D} {l:List Rgt} (hp:PN h d l H) (r:Rgt):
  PN h d (l++[r]) (((H.set (h.length+1) ((Hi l).set r.file (Be r)).row).set (h.length+2) (IG 12 0 r.file (FC r.file (Be r)) (Qk l)).row).set h.length ((Hi l).set r.file (Be r)).row):=by
 obtain⟨J,rfl,hJ⟩:=hp;refine⟨J,?_,hJ⟩;have e:∀(i:Nat) (x:Row) (t:List Row),(h++t).set (h.length+i) x=h++t.set i x:=by
  intro i x t;rw[rH _ _ (by omega),Nat.add_sub_cancel_left]
 have e0:=λx t=>e 0 x t;simp only[ql]at e0;rw[e,e,e0];simp[D8,LK,OZ]
def Yq:AC:=(.seq (.reg (oG 13 8) [6,8,9,10,21,22,23,33]) (.cond (.t 33 false) (.seq (.reg (oG 13 9) [4,5]) .ret) .skip))
def dE:AC:=(.seq (.regD (oG 13 10) [6,8,9,12,21,22,23] [[],[0],[0,1],[0,1,2],[],[4],[0,1,2,3,4,5],[0,1,2,3,4,5,6],[0,1,2,3,4,5,6,7],[0,1,2,3,4,5,6,7],[0,1,2,3,4,5,6,7,8],[0,1,2,3,4,5,6,7,8,9,10]]) (.seq (.reg (oG 13 11) [6,8,9,21,22,23,45]) (.cond (.t 45 false) (.seq (.reg (oG 13 12) [4,5]) .ret) .skip)))
def dD:AC:=(.seq (.regD (oG 13 13) [6,8,9,13,21,22,23] [[],[0],[0,1],[0,1,2],[],[4],[],[0,1,2,3,4,5,6],[0,1,2,3,4,5,6,7]]) (.seq (.reg (oG 13 14) [6,8,9,13,21,22,23,55]) (.cond (.t 55 false) (.seq (.reg (oG 13 15) [4,5]) .ret) .skip)))
def c8:AC:=(.regD (oG 13 16) [6,21,22,23] [[],[0],[0,1],[0,1,2],[],[4],[],[0,1,2,3,4,5,6]])
def Yp:AC:=(.seq (.reg (oG 13 6) [6,8,21,22,23]) (.seq (.reg (oG 13 7) [6,8,9,10,21,22,23]) (.seq Yq (.seq dE (.seq dD c8)))))
theorem Tx:(lG 13 0)=(.seq (.reg (oG 13 5) [6,21,22,23,24]) (.seq (.cond (.t 24 false) .skip (.exit 0)) (.seq (.block 1 Yp) (.reg (oG 13 17) [6,21,22,23])))):=(A8 13 0 :)
theorem oE (h:List Row) (d:D) (hd:D.lt h.length d=true) (hl:∀row∈h,row.low h.length=true) (l:List Rgt) (k:Nat) (r:Rgt) (hr:r.ok) (hlen:(Be r).length≤2^39) (hB:∀x∈Be r,0≤x∧x <256) (hxk:l[k]?=some r) (hk:k≤l.length)
  (hE:∀j <k,Dt l j=0) (H:List Row) (hp:PN h d (l.take k) H) (d22:D) (K:AExit→St→Prop)
  (hret:Dt l k≠0→∀e H',AG e 4= .v .nilp→AG e 5= .v (.int .i64 (Dt l k))→(∃J,H'=h++J)→K .ret ⟨e,H'⟩)
  (hok:Dt l k=0→∀e H',AG e 6= .ref (h.length+4) 0→AG e 21= .v (.list (l.map Rgt.V))→AG e 22=d22→AG e 23= .v (.int .i64 k)→PN h d (l.take (k+1)) H'→K .normal ⟨e,H'⟩):
  ∀e,AG e 6= .ref (h.length+4) 0→AG e 21= .v (.list (l.map Rgt.V))→AG e 22=d22→AG e 23= .v (.int .i64 k)→awp Tryz.prog Ah Yp K ⟨e,H⟩:=by
 intro e f6 f21 f22 f23;have p1:=(l0 r hr).fsp;have hne:=Kf hxk;have hpr:=hp.app r;have hrow:H++[.cells (r.cs.map D.v)]=H++[r.row]:=rfl;simp[Rgt.V,Rgt.cs,AH]at p1 hrow;unfold Yp;simp only[AE,AF,AA 13 6];simp[f6,f21,f22,f23,hxk,Rgt.V,Rgt.cs,AO,AH];rw[hrow];have g8:(H++[r.row])[H.length]?=some r.row:=by simp
 have hT:h.length+5≤H.length:=by obtain⟨J,rfl,-⟩:=hp;simp[D8]
 generalize H.length=T at*;generalize H++[r.row]=H1 at*;have hJ:∃J,H1=h++J:=by obtain⟨J,hJ,-⟩:=hpr;exact⟨_,hJ⟩
 obtain⟨g0,g1,g2,g3,g4⟩:=hpr.get;simp[AA 13 7,g8,Rgt.row,AH];refine⟨_,_,p1 _,?_⟩;cases hf:Aw r with
 |false=>
  rw[hf]at hne;simp at hne;simp[Yq,AE,AF,AK,AA 13 8,AA 13 9,AB];exact hret (by rw[hne];decide) _ _ (by simp) (by simp[hne]) hJ
 |true=>
  rw[hf]at hne;simp at hne;have hmf:=Kh r.file (Hi (l.take k)).E;have hKE:=S6 k hk hE;have g0':H1[h.length]?=some (.map ((Hi (l.take k)).E.map Gg) (Hi (l.take k)).st (Hi (l.take k)).ck):=g0;simp[Yq,AE,AF,AK,AA 13 8,AD];simp only[dE,AE,AS,AF,AK,AA 13 10];simp[g4,g8,Rgt.row,g0',hmf,Bj,V.eqL,V.eq1];cases hi:(Hi (l.take k)).E.findIdx? (λx=>x.1==r.file)with
  |some i=>
   have hil:i <(Hi (l.take k)).E.length:=(qu.1 hi).1;have hany:(l.take k).any (λq=>q.file==r.file)=true:=by
    cases ha:(l.take k).any (λq=>q.file==r.file)with
    |true=>rfl
    |false=>
     rw[←FK,←hKE,hi]at ha;cases ha
   simp only[qN,beq_iff_eq]at hany;rw[if_pos hany]at hne;simp[oI hil,Du,AA 13 11,AA 13 12,AB];exact hret (by rw[hne];decide) _ _ (by simp) (by simp[hne]) hJ
  |none=>
   have hnone:=hi;rw[hKE,FK]at hnone;have hnany:¬ ∃x,x∈l.take k∧x.file=r.file:=by
    rintro⟨x,hx,hxf⟩;rw[pu]at hnone;exact hnone x hx (by simpa using hxf)
   rw[if_neg hnany]at hne;simp[Du,AA 13 11,AD];simp only[dD,AE,AS,AF,AK,AA 13 13];simp[g4,g8,Rgt.row];have p2:=nH H1 (h.length+3) (h.length+1) (h.length+2) _ _ g3 g1 g2 (by omega) (by omega) (by omega) (hpr.low hd hl) r.file (Be r) hB hlen;simp[AH]at p2;by_cases hz:Eo r.file (Be r)=0
   ·rw[hz]at hne p2;rw[if_pos rfl]at p2;have hset:=hpr.set r;obtain⟨H2,hH2⟩:∃H2,(H1.set (h.length+1) ((Hi (l.take k)).set r.file (Be r)).row).set (h.length+2) (IG 12 0 r.file (FC r.file (Be r)) (Qk (l.take k))).row=H2:=⟨_,rfl⟩;rw[hH2]at p2 hset;have e4:H2[h.length+4]?=some (.cells [d,.mref h.length,.ref (h.length+3) 0]):=by rw[←hH2,ot (by omega),ot (by omega)];exact g4
    have e0:H2[h.length]?=some (.map ((Hi (l.take k)).E.map Gg) (Hi (l.take k)).st (Hi (l.take k)).ck):=by rw[←hH2,ot (by omega),ot (by omega)];exact g0'
    have e8:H2[T]?=some r.row:=by rw[←hH2,ot (by omega),ot (by omega)];exact g8
    refine⟨_,_,p2,?_⟩;simp[AA 13 14,AD,c8,AS,AA 13 16];simp[e4,e8,e0,Rgt.row,hmf,hi,Bj,V.eqL,V.eq1];refine hok (by rw[hne]) _ _ (by simp) (by simp) (by simp) (by simp) ?_;rw[Di hxk];have hrn:=KM.row_new (Be r) hi;simp[AH,Gg]at hrn;simpa[hrn]using hset
   ·rw[if_neg hz]at p2;refine⟨_,_,p2,?_⟩;simp[hz,AA 13 14,AA 13 15,AB];exact hret (by rw[hne];exact hz) _ _ (by simp) (by simp[hne]) hJ
end
section
variable {m:Nat}
theorem Hm {r:Rgt} (h:r.tiny m) (hm:m≤2^20):(Be r).length≤2^39:=by
 have h1:=h.lc;have h2:=h.ld;have h3:=h.lb;have h4:=h.lo;have h5:=h.ll;have e0:=GM h.claims;have e1:=Ab r.file;have e2:=Ab r.state;have e3:=Ab r.force;have e4:=CV (BB r.claims).length;have e5:=Ab r.dates.length;have e6:=Cs EM r.dates;have e7:=GK r.bad;have e8:=Ab r.owners.length;have e9:=Cs EK r.owners;have e10:=Ab r.lics.length;have e11:=Cs EL r.lics;simp only[Be,BE,oL];omega
theorem NY {r:Rgt} (h:r.tiny m) (hm:m≤2^20):isB (Be r):=by
 have h1:=h.lc;have h2:=h.ld;have h3:=h.lb;have h4:=h.lo;have h5:=h.ll;have e0:=GM h.claims;unfold Be;refine isB.app (isB.app (isB.app (isB.app (isB.app (isB.app (isB.app (isB.app (isB.app (isB.app ?_ ?_) ?_) ?_) ?_) ?_) ?_) ?_) ?_) ?_) ?_
 ·exact isB.encI h.file
 ·exact isB.encI h.state
 ·exact isB.encI h.force
 ·exact isB.encRaw (isB.encClms (λc hc=>(h.claims c hc).ok) (by omega) (by omega)) (by omega)
 ·exact isB.encI (by unfold i64;omega)
 ·exact isB.flat λx hx=>((isB.encI (h.dates x hx).1).app (isB.encI (h.dates x hx).2.1)).app (isB.encI (h.dates x hx).2.2.1) |>.app (isB.encI (h.dates x hx).2.2.2)
 ·exact isB.encInts h.bad (by omega)
 ·exact isB.encI (by unfold i64;omega)
 ·exact isB.flat λx hx=>((isB.encI (h.owners x hx).1).app (isB.encI (h.owners x hx).2.1)).app (isB.encI (h.owners x hx).2.2)
 ·exact isB.encI (by unfold i64;omega)
 ·exact isB.flat λx hx=>((isB.encI (h.lics x hx).1).app (isB.encI (h.lics x hx).2.1)).app (isB.encI (h.lics x hx).2.2.1) |>.app (isB.encI (h.lics x hx).2.2.2)
def K1 (l:List Rgt):Int:=Fc (Dt l) 0 l.length
variable {k:Nat}
theorem Mz {l:List Rgt} (hk:k <l.length) (h:∀j <k,Dt l j=0) (hz:Dt l k≠0):K1 l=Dt l k:=Hk _ _ k (pg k) (by omega) (λj _ hj=>h j hj) hz
theorem JW {l:List Rgt} (h:∀j <l.length,Dt l j=0):K1 l=0:=FU _ _ λj _ hj=>h j (by omega)
theorem nv (h:List Row) (d:D) (hd:D.lt h.length d=true) (hl:∀row∈h,row.low h.length=true) (hm:m≤2^20) (l:List Rgt) (hok:∀r∈l,r.tiny m) (hn:l.length≤2^30) (K:AExit→St→Prop)
  (hret:∀k <l.length,(∀j <k,Dt l j=0)→Dt l k≠0→∀e H',AG e 4= .v .nilp→AG e 5= .v (.int .i64 (Dt l k))→(∃J,H'=h++J)→K .ret ⟨e,H'⟩)
  (hend:(∀j <l.length,Dt l j=0)→∀e H',AG e 6= .ref (h.length+4) 0→PN h d l H'→K (.exit 0) ⟨e,H'⟩):
  awp Tryz.prog Ah (.loop (lG 13 0)) K ⟨[(6,.ref (h.length+4) 0),(21,.v (.list (l.map Rgt.V))),(22,.v (.int .i64 l.length)),(23,.v (.int .i64 0))],h++D8 d h.length []⟩:=by
 refine AY l.length (λk s=>s.e=[(6,.ref (h.length+4) 0),(21,.v (.list (l.map Rgt.V))),(22,.v (.int .i64 l.length)),(23,.v (.int .i64 k))]∧(∀j <k,Dt l j=0)∧PN h d (l.take k) s.h) ⟨by simp,λj hj=>by omega,[],by simp,by simp⟩ ?_;rintro k ⟨se,H⟩ hk ⟨he,hE,hp⟩;simp only at he hp;subst he;rw[Tx];simp only[Zw,AA 13 5];simp;by_cases hlt:k <l.length
 ·obtain⟨r,hxk⟩:∃r,l[k]?=some r:=⟨_,oI hlt⟩;have hr:=hok r (oK hxk);have hw:=Bb k;rw[if_pos (by omega),AD];refine oE h d hd hl l k r (hr.ok hm) (Hm hr hm) (NY hr hm) hxk hk hE H hp (.v (.int .i64 l.length)) _ ?_ ?_ _ (by simp) (by simp) (by simp) (by simp)
  ·intro hz e H' h4 h5 hJ;exact hret k hlt hE hz e H' h4 h5 hJ
  ·intro hz e H' f6 f21 f22 f23 hp';simp[AA 13 17,f6,f21,f22,f23,hw,hlt];refine⟨λj hj=>?_,hp'⟩;rcases om j k with h|h
   ·exact hE j h
   ·have:j=k:=by omega
    subst this;exact hz
 ·have:k=l.length:=by omega
  subst this;rw[if_neg (by omega),AJ];simp;rw[od]at hp;exact hend hE _ _ (by simp) hp
theorem mD (h:List Row) (c:Nat) (hc:c <h.length) (hl:∀row∈h,row.low h.length=true) (hm:m≤2^20) (l:List Rgt) (hok:∀r∈l,r.tiny m) (hn:l.length≤2^30):
  FX 13 [.ref c 0,.v (.list (l.map Rgt.V))] h (if K1 l=0 then [.ref (h.length+4) 0,.v (.int .i64 0)] else [.v .nilp,.v (.int .i64 (K1 l))]) (if K1 l=0 then h++D8 (.ref c 0) h.length l else h):=by
 have hd:D.lt h.length (.ref c 0)=true:=by simp[D.lt,hc]
 have q0:PN h (.ref c 0) l (h++(D8 (.ref c 0) h.length l++[])):=⟨[],rfl,by simp⟩;rw[pz]at q0;have p50':=nI (h++[KM.row ⟨[],[],0⟩]);refine Ak (D4 13) rfl ?_ ?_ ?_ ?_
 ·split<;>simp
 ·split
  ·exact q0.low hd hl
  ·exact hl
 ·split
  ·simp[D.lt,D8]
  ·simp[D.lt]
 simp only[Zw,Ai 13,AA 13 0,AA 13 1,AQ];simp[AD,AA 13 3];simp[KM.row,HM.row]at p50';refine⟨_,_,p50',?_⟩;simp[AA 13 4,AO];have e0:h++[Row.map [] [] 0,Row.map [] [] 0,Row.map [] [] 0,Row.cells [D.mref (h.length+1),D.mref (h.length+1+1)],Row.cells [D.ref c 0,D.mref h.length,D.ref (h.length+1+2) 0]]=h++D8 (.ref c 0) h.length []:=by
  simp[D8,Hi,Qk,KM.row,HM.row]
 rw[e0];refine nv h (.ref c 0) hd hl hm l hok hn _ ?_ ?_
 ·intro k hk hE hz e H' h4 h5 hJ;rw[Mz hk hE hz,if_neg hz];simp[AW 13,h4,h5,hz,hJ]
 ·intro hE e H' h6 hp;obtain⟨J,hJ,-⟩:=hp;simp[JW hE,AA 13 18,h6,AB,AW 13,hJ]
end
section
def Io (R:List Rgt) (f:Int):Nat:=R.findIdx λq=> !decide (q.file <f)
def IK (R:List Rgt) (r:Rgt):List Rgt:=R.take (Io R r.file)++r::R.drop (Io R r.file)
def PP (l:List Rgt):List Rgt:=l.foldl IK []
def KO (l:List Rgt):List (Int×List Int):=l.foldl (λps r=>I1 ps r.file (Be r)) []
def RR (dP:D) (n:Nat) (R:List Rgt):Row:= .cells [dP,.own 32 8 (R.map Rgt.V),.ref n 0]
theorem Nv (l:List Rgt) (r:Rgt):PP (l++[r])=IK (PP l) r:=by simp[PP]
theorem Im (l:List Rgt) (r:Rgt):KO (l++[r])=I1 (KO l) r.file (Be r):=by simp[KO]
theorem TC (R:List Rgt) (r:Rgt):(IK R r).length=R.length+1:=by
 have:Io R r.file≤R.length:=List.findIdx_le_length;simp[IK];omega
theorem TF (ps:List (Int×List Int)) (k:Int) (v:List Int):(I1 ps k v).length=ps.length+1:=by
 have:K4 ps k≤ps.length:=List.findIdx_le_length;simp[I1];omega
theorem TE {ps:List (Int×List Int)} {k:Int} {v:List Int} {p:Int×List Int}:p∈I1 ps k v↔p=(k,v)∨p∈ps:=by
 unfold I1;generalize K4 ps k=i;have:p∈ps↔p∈ps.take i∨p∈ps.drop i:=by rw[←oc,pQ]
 rw[this];simp only[oc,oO]
 constructor
 ·rintro(h|h|h)
  ·exact .inr (.inl h)
  ·exact .inl h
  ·exact .inr (.inr h)
 ·rintro(h|h|h)
  ·exact .inr (.inl h)
  ·exact .inl h
  ·exact .inr (.inr h)
theorem QK:∀(l:List Rgt) (k:Nat),k≤l.length→(PP (l.take k)).length=k
 |l,0,_=>by simp[PP]
 |l,k+1,hk=>by
  obtain⟨r,hr⟩:∃r,l[k]?=some r:=⟨_,oI (by omega)⟩;rw[Di hr,Nv,TC,QK l k (by omega)]
theorem Ka:∀(l:List Rgt) (k:Nat),k≤l.length→(KO (l.take k)).length=k
 |l,0,_=>by simp[KO]
 |l,k+1,hk=>by
  obtain⟨r,hr⟩:∃r,l[k]?=some r:=⟨_,oI (by omega)⟩;rw[Di hr,Im,TF,Ka l k (by omega)]
theorem In:∀(l:List Rgt) (k:Nat),k≤l.length→∀p,p∈KO (l.take k)↔p∈(l.take k).map G2
 |l,0,_,p=>by simp[KO]
 |l,k+1,hk,p=>by
  obtain⟨r,hr⟩:∃r,l[k]?=some r:=⟨_,oI (by omega)⟩;rw[Di hr,Im,TE,In l k (by omega),oh,oc];simp[G2,or_comm]
variable {k:Nat}
theorem N8 {l:List Rgt} (hk:k≤l.length) (f:Int):(KO (l.take k)).findIdx? (λp=>p.1==f)=none↔(l.take k).any (λq=>q.file==f)=false:=by
 rw[←FK,qf,qf]
 constructor
 ·intro h p hp;exact h p ((In l k hk p).2 hp)
 ·intro h p hp;exact h p ((In l k hk p).1 hp)
theorem VD (ps:List (Int×List Int)) (k:Int) (v:List Int) (h:∀p∈ps,p.1≠k):DV (I1 ps k v)=upd (DV ps) k (FC k v):=by
 funext x
 simp only[DV,upd,I1];generalize K4 ps k=i;have hsplit:ps.find? (λp=>p.1==x)=((ps.take i).find? (λp=>p.1==x)).or ((ps.drop i).find? λp=>p.1==x):=by rw[←List.find?_append,pQ]
 rw[List.find?_append,List.find?_cons];by_cases hx:x=k
 ·subst hx;have:(ps.take i).find? (λp=>p.1==x)=none:=rp.2 λp hp=>by have:=h p (pH hp);simpa using this
  simp[this]
 ·have:(k==x)=false:=by simpa using λe:k=x=>hx e.symm
  rw[this,if_neg hx,hsplit]
theorem PW {l:List Rgt}:∀k≤l.length,(∀j <k,Dt l j=0)→DV (KO (l.take k))=DV ((l.take k).map G2)
 |0,_,_=>by simp[KO]
 |k+1,hk,h=>by
  obtain⟨r,hr⟩:∃r,l[k]?=some r:=⟨_,oI (by omega)⟩;have ih:=PW k (by omega) λj hj=>h j (by omega);obtain⟨h1,h2,h3⟩:=M9 hr (h k (by omega));have hab:∀p∈KO (l.take k),p.1≠r.file:=by
   have:=(N8 (l:=l) (by omega) r.file).2 h2;rw[qf]at this;intro p hp;simpa using this p hp
  have e:G2 r=(r.file,Be r):=rfl;rw[Di hr,Im,oh,List.map_singleton,e,OU _ _ _ ((FK _ _).2 h2),VD _ _ _ hab,ih]
theorem Pk (l:List Rgt):BM 8 (l.map Rgt.V)=true:=by cases l<;>rfl
theorem nu (H:List Row) (x n:Nat) (dP:D) (R:List Rgt) (hx:H[x]?=some (RR dP n R)) (hR:R.length≤2^30) (l:List Rgt) (i:Nat) (r:Rgt) (hxk:l[i]?=some r):
  awp Tryz.prog Ah (.loop (lG 15 1)) (λe s=>e= .exit 2∧AG s.e 1= .v (.list (l.map Rgt.V))∧AG s.e 6= .ref x 0∧AG s.e 7= .v (.int .i64 i)∧AG s.e 11= .v (.int .i64 (Io R r.file))∧s.h=H)
   ⟨[(1,.v (.list (l.map Rgt.V))),(6,.ref x 0),(7,.v (.int .i64 i)),(11,.v (.int .i64 0))],H⟩:=by
 have hT:Io R r.file≤R.length:=List.findIdx_le_length;refine AN (Io R r.file) (λk=>⟨[(1,.v (.list (l.map Rgt.V))),(6,.ref x 0),(7,.v (.int .i64 i)),(11,.v (.int .i64 k))],H⟩) (by simp) ?_;intro k hk;simp only[Zw,A8 15 1,AS,AA 15 14];simp[hx,RR];by_cases hlt:k <Io R r.file
 ·have hil:k <R.length:=by omega
  obtain⟨p,hp⟩:∃p,R[k]?=some p:=⟨_,oI hil⟩;have hpe:R[k]=p:=(oM.1 hp).2;have hnot:=List.not_of_lt_findIdx hlt;have hpk:p.file <r.file:=by rw[←hpe];simpa using hnot
  have hw:=Bb k;have hil':(k:Int) <R.length:=by omega
  simp[hil,hxk,Rgt.V,Rgt.cs,hpk,AD,AA 15 15,hw,hlt,hpe]
 ·have hi2:k=Io R r.file:=by omega
  by_cases hil:k <R.length
  ·obtain⟨p,hp⟩:∃p,R[k]?=some p:=⟨_,oI hil⟩;have hpe:R[k]=p:=(oM.1 hp).2;have hstop:¬p.file <r.file:=by
    have e:R.findIdx (λq=> !decide (q.file <r.file))=k:=hi2.symm;have:=List.findIdx_getElem (p:=λq:Rgt=> !decide (q.file <r.file)) (xs:=R) (w:=by rw[e];exact hil);simp only[e]at this;rw[hpe]at this;simpa using this
   simp[hil,hxk,Rgt.V,Rgt.cs,hstop,AJ,hpe];omega
  ·simp[hil,AJ];omega
end
section
def HR (h:List Row) (dP:D) (l:List Rgt):List Row:=h++[G0 (KO l),RR dP h.length (PP l)]
def Ym:AC:=(.seq (.reg (oG 15 13) [1,6,7,11]) (.seq (.block 2 (.loop (lG 15 1))) (.seq (.reg (oG 15 16) [1,6,7,11,12]) (.seq (.regD (oG 15 17) [1,6,7,11,12] [[],[],[1],[1,2],[1,2,3],[],[1,2,3,4,5],[0,1,2,3,4,5,6],[],[],[8,9],[8,9,10],[8,9,10,11],[0,1,2,3,4,5,6,7,8,9,10,11,12],[0,1,2,3,4,5,6,7,8,9,10,11,12,13]]) (.reg (oG 15 18) [1,6,7])))))
def Yn:AC:=(.seq (.reg (oG 15 11) [1,6,7,10,58]) (.cond (.t 58 false) (.seq (.reg (oG 15 12) [4,5]) .ret) .skip))
def c7:AC:=(.seq (.regD (oG 15 8) [1,6,7,8,45] [[],[0],[0,1],[0,1,2],[],[],[4,5],[4,5,6],[4,5,6,7],[0,1,2,3,4,5,6,7,8],[0,1,2,3,4,5,6,7,8,9]]) (.cond (.t 45 false) (.seq (.reg (oG 15 9) [4,5]) .ret) .skip))
def Yo:AC:=(.seq (.reg (oG 15 6) [1,6,7,8,9,33]) (.cond (.t 33 false) (.seq (.reg (oG 15 7) [4,5]) .ret) .skip))
def Yl:AC:=(.seq (.reg (oG 15 5) [1,6,7,8,9]) (.seq Yo (.seq c7 (.seq (.regD (oG 15 10) [1,6,7,10] [[],[0],[0,1],[0,1,2],[],[],[4,5],[4,5,6],[4,5,6,7],[],[0,1,2,3,4,5,6,7,8,9],[0,1,2,3,4,5,6,7,8,9,10]]) (.seq Yn Ym)))))
theorem Tw:(lG 15 0)=(.seq (.seq (.reg (oG 15 3) [1,6,7,21]) (.cond (.t 21 false) .skip (.exit 0))) (.seq (.block 1 Yl) (.reg (oG 15 4) [1,6,7]))):=(A8 15 0 :)
theorem mV (H:List Row) (x n:Nat) (dP:D) (R:List Rgt) (hx:H[x]?=some (RR dP n R)) (hR:R.length≤2^30) (l:List Rgt) (i:Nat) (r:Rgt) (hxk:l[i]?=some r) (K:AExit→St→Prop)
  (hK:∀e,AG e 1= .v (.list (l.map Rgt.V))→AG e 6= .ref x 0→AG e 7= .v (.int .i64 i)→K .normal ⟨e,H.set x (RR dP n (IK R r))⟩):
  ∀e,AG e 1= .v (.list (l.map Rgt.V))→AG e 6= .ref x 0→AG e 7= .v (.int .i64 i)→awp Tryz.prog Ah Ym K ⟨e,H⟩:=by
 intro e f1 f6 f7;have q:=nu H x n dP R hx hR l i r hxk;have hT:Io R r.file≤R.length:=List.findIdx_le_length;have hho:=Pk R;have room:∀(m:Nat),m≤2^31→AU m 144=true:=by intro m hm;simp[AU];omega
 have hres:RR dP n (IK R r)= .cells [dP,.own 32 8 ((R.map Rgt.V).take (Io R r.file)++r.V::(R.map Rgt.V).drop (Io R r.file)),.ref n 0]:=by simp[RR,IK,o8,qQ]
 rw[hres]at hK;generalize Io R r.file=p at*;have hx':H[x]?=some (.cells [dP,.own 32 8 (R.map Rgt.V),.ref n 0]):=hx;have tkl:(R.map Rgt.V).take R.length=R.map Rgt.V:=o6 (by simp);have hhd:BM 8 ((R.map Rgt.V).drop p)=true:=by rw[←qQ];exact Pk _
 have hht:BM 8 ((R.map Rgt.V).take p)=true:=by rw[←o8];exact Pk _
 have hmin:min p R.length=p:=by omega
 have rm0:=room p (by omega);have rm1:=room (p+1) (by omega);have rm2:=room (p+1+(R.length-p)) (by omega);have hrl:r.V.cells.length=8:=rfl;unfold Ym;simp only[AE,AF,AM,AA 15 13];simp[f1,f6,f7];refine Ad _ ?_ q;rintro e2 ⟨se,sh⟩ ⟨rfl,g1,g6,g7,g11,hh⟩;simp only at g1 g6 g7 g11 hh;subst hh;simp[AA 15 16,g1,g6,g7,g11];simp[AS,AA 15 17,hx',hho,hT,hht,hmin,rm0,rm1,hxk,Rgt.V,Rgt.cs];simp[AA 15 18,hx',hho,hhd,hT,tkl,hmin,rm2];refine hK _ ?_ ?_ ?_
 all_goals simp
theorem Vv (h:List Row) (dP:D) (l:List Rgt) (r:Rgt):((HR h dP l).set h.length (G0 (I1 (KO l) r.file (Be r)))).set (h.length+1) (RR dP h.length (IK (PP l) r))=HR h dP (l++[r]):=by
 simp[HR,Im,Nv]
theorem oD (h:List Row) (dP:D) (l:List Rgt) (k:Nat) (r:Rgt) (hr:r.ok) (hlen:(Be r).length≤2^39) (hxk:l[k]?=some r) (hk:k≤l.length) (hn:l.length≤2^30)
  (hE:∀j <k,Dt l j=0) (K:AExit→St→Prop)
  (hret:Dt l k≠0→∀e H',AG e 4= .v .nilp→AG e 5= .v (.int .i64 (Dt l k))→(∃J,H'=h++J)→K .ret ⟨e,H'⟩)
  (hok:Dt l k=0→∀e,AG e 1= .v (.list (l.map Rgt.V))→AG e 6= .ref (h.length+1) 0→AG e 7= .v (.int .i64 k)→K .normal ⟨e,HR h dP (l.take (k+1))⟩):
  ∀e,AG e 1= .v (.list (l.map Rgt.V))→AG e 6= .ref (h.length+1) 0→AG e 7= .v (.int .i64 k)→awp Tryz.prog Ah Yl K ⟨e,HR h dP (l.take k)⟩:=by
 intro e f1 f6 f7;have p1:=(nF r hr).fsp;have hne:=Kf hxk;have hkl:=Ka l k hk;have hJ:∃J,HR h dP (l.take k)=h++J:=⟨_,rfl⟩;have g0:(HR h dP (l.take k))[h.length]?=some (G0 (KO (l.take k))):=by simp[HR]
 have g1:(HR h dP (l.take k))[h.length+1]?=some (RR dP h.length (PP (l.take k))):=by simp[HR]
 have hset:=Vv h dP (l.take k) r;rw[←Di hxk]at hset;have p2:=nE (HR h dP (l.take k)) h.length (KO (l.take k)) g0 (by omega) r.file;have hfi:=N8 hk r.file;have hRl:=QK l k hk;obtain⟨H,hH⟩:∃H,HR h dP (l.take k)=H:=⟨_,rfl⟩;rw[hH]at hJ g0 g1 hset p2 ⊢;simp[Rgt.V,Rgt.cs,AH]at p1;unfold Yl;simp only[AE,AF,AA 15 5];simp[f1,f7,hxk,Rgt.V,Rgt.cs,AH];refine⟨_,_,p1 _,?_⟩;cases hf:Aw r with
 |false=>
  rw[hf]at hne;simp at hne;simp[Yo,AE,AF,AK,AA 15 6,AA 15 7,AB];exact hret (by rw[hne];decide) _ _ (by simp) (by simp[hne]) hJ
 |true=>
  rw[hf]at hne;simp only[if_true]at hne;simp[Yo,AE,AF,AK,AA 15 6,AD];simp only[c7,AE,AS,AF,AK,AA 15 8];simp[f1,f6,f7,g1,RR,hxk,Rgt.V,Rgt.cs];refine⟨_,_,p2,?_⟩;cases hi:(KO (l.take k)).findIdx? (λp=>p.1==r.file)with
  |some i=>
   have hany:(l.take k).any (λq=>q.file==r.file)=true:=by
    cases ha:(l.take k).any (λq=>q.file==r.file)with
    |true=>rfl
    |false=>rw[←hfi,hi]at ha;cases ha
   rw[if_pos hany]at hne;simp[DX,AA 15 9,AB];exact hret (by rw[hne];decide) _ _ (by simp) (by simp[hne]) hJ
  |none=>
   have hnone:=hfi.1 hi;rw[hnone]at hne;simp only[oa,if_false]at hne;have hab:∀p∈KO (l.take k),p.1≠r.file:=by
    rw[qf]at hi;intro p hp;simpa using hi p hp
   have p3:=nD H h.length (KO (l.take k)) g0 (by omega) r.file (Be r) hlen hab;simp[DX,AD,AA 15 10];simp[AH]at p3;simp[g1,RR,hxk,Rgt.V,Rgt.cs];by_cases hz:Eo r.file (Be r)=0
   ·rw[hz,if_pos rfl]at p3;rw[hz]at hne;refine⟨_,_,p3,?_⟩;simp[Yn,AE,AF,AK,AA 15 11,AD];refine mV (H.set h.length (G0 (I1 (KO (l.take k)) r.file (Be r)))) (h.length+1) h.length dP (PP (l.take k)) (by rw[ot (by omega)];exact g1) (by omega) l k r hxk _ ?_ _ (by simp) (by simp) (by simp);intro e2 h1 h6 h7;rw[hset];exact hok hne _ h1 h6 h7
   ·rw[if_neg hz]at p3;refine⟨_,_,p3,?_⟩;simp[hz,Yn,AE,AF,AK,AA 15 11,AA 15 12,AB];exact hret (by rw[hne];exact hz) _ _ (by simp) (by simp[hne]) hJ
variable {h:List Row}
theorem QE (hl:∀row∈h,row.low h.length=true) (v:V) (l:List Rgt):∀row∈HR h (.v v) l,row.low (HR h (.v v) l).length=true:=by
 have hlen:(HR h (.v v) l).length=h.length+2:=by simp[HR]
 intro row hrow;rw[hlen];rcases oc.1 hrow with hrow|hrow
 ·exact Row.low_mono (by omega) (hl row hrow)
 ·simp only[oO,o7,or_false]at hrow;rcases hrow with rfl|rfl
  ·simp[G0,Row.low,D.lts,D.lt]
  ·simp[RR,Row.low,D.lts,D.lt]
variable {m:Nat}
theorem jQ (h:List Row) (hl:∀row∈h,row.low h.length=true) (hm:m≤2^20) (vs:List V) (l:List Rgt) (hok:∀r∈l,r.tiny m) (hn:l.length≤2^30):
  FX 15 [.v (.list vs),.v (.list (l.map Rgt.V))] h (if K1 l=0 then [.ref (h.length+1) 0,.v (.int .i64 0)] else [.v .nilp,.v (.int .i64 (K1 l))]) (if K1 l=0 then HR h (.v (.list vs)) l else h):=by
 refine Ak (D4 15) rfl ?_ ?_ ?_ ?_
 ·split<;>simp[HR]
 ·split
  ·exact QE hl (.list vs) l
  ·exact hl
 ·split
  ·simp[D.lt,HR]
  ·simp[D.lt]
 simp only[Ai 15,AE,AF,AM,AA 15 0,AA 15 1,AQ];simp[AO,AA 15 2];have e0:h++[Row.cells [.own 200 2 []],Row.cells [.v (.list vs),.own 32 8 [],.ref h.length 0]]=HR h (.v (.list vs)) []:=by simp[HR,G0,KO,PP,RR]
 rw[e0];refine AY l.length (λk s=>s.e=[(1,.v (.list (l.map Rgt.V))),(6,.ref (h.length+1) 0),(7,.v (.int .i64 k))]∧(∀j <k,Dt l j=0)∧s.h=HR h (.v (.list vs)) (l.take k)) ⟨by simp,λj hj=>by omega,by simp⟩ ?_;rintro k ⟨se,H⟩ hk ⟨he,hE,hp⟩;simp only at he hp;subst he hp;rw[Tw];simp only[Zw,AA 15 3];simp;by_cases hlt:k <l.length
 ·obtain⟨r,hxk⟩:∃r,l[k]?=some r:=⟨_,oI hlt⟩;have hr:=hok r (oK hxk);have hw:=Bb k;rw[if_pos (by omega),AD];refine oD h (.v (.list vs)) l k r (hr.ok hm) (Hm hr hm) hxk hk hn hE _ ?_ ?_ _ (by simp) (by simp) (by simp)
  ·intro hz e H' h4 h5 hJ;simp only[Mz hlt hE hz,if_neg hz];simp[AW 15,h4,h5,hJ]
  ·intro hz e f1 f6 f7;simp[AA 15 4,f1,f6,f7,hw,hlt];intro j hj;rcases om j k with h|h
   ·exact hE j h
   ·have:j=k:=by omega
    subst this;exact hz
 ·have:k=l.length:=by omega
  subst this;rw[if_neg (by omega),AJ];simp[AA 15 19,AB,AW 15,JW hE]
end
section
def lU:AC:=(.seq (.reg (oG 3 20) [9,10,16,17,18,20,110]) (.cond (.t 110 false) (.seq (.reg (oG 3 21) [8]) .ret) .skip))
def lS:AC:=(.regA (oG 3 22) [9,10,16,17,132] [[],[0],[0,1],[0,1,2],[0,1,2,3],[0,1,2],[0,1,2,5],[0,1,2,5,6],[0,1,2,5,6,7],[0,1,2,3,4,5,6,7,8],[0,1,2,3,4,5,6,7,8,9],[0,1,2,3,4,5,6,7,8,9,10],[0,1,2,3,4,5,6,7,8,9,10,11],[0,1,2,3,4,5,6,7,8,9,10,11,12],[0,1,2,3,4,5,6,7,8,9,10,11],[0,1,2,3,4,5,6,7,8,9,10,11],[0,1,2,3,4,5,6,7,8,9,10,11,14,15],[0,1,2,3,4,5,6,7,8,9,10,11,14,15,16],[0,1,2,3,4,5,6,7,8,9,10,11,14,15,16,17],[0,1,2,3,4,5,6,7,8,9,10,11,12,13,14,15,16,17,18],[0,1,2,3,4,5,6,7,8,9,10,11,12,13,14,15,16,17,18,19],[0,1,2,3,4,5,6,7,8,9,10,11,12,13,14,15,16,17,18,19,20]] (.take 0 (.take 1 (.take 2 (.take 3 (.take 5 (.take 6 (.take 7 (.pick (.alt 4 (.take 8 (.take 9 (.take 10 (.take 11 (.take 12 (.take 14 (.take 15 (.take 16 (.pick (.alt 13 (.take 17 (.take 18 (.take 19 (.take 20 (.take 21 .done))))) (.alt 17 (.take 13 (.take 18 (.take 19 (.take 20 (.take 21 .done))))) .none))))))))))) (.alt 8 (.take 4 (.take 9 (.take 10 (.take 11 (.take 12 (.take 14 (.take 15 (.take 16 (.pick (.alt 13 (.take 17 (.take 18 (.take 19 (.take 20 (.take 21 .done))))) (.alt 17 (.take 13 (.take 18 (.take 19 (.take 20 (.take 21 .done))))) .none))))))))))) .none)))))))))))
def ZE:AC:=(.cond (.t 132 false) (.seq (.reg (oG 3 23) [8]) .ret) .skip)
def mL:AC:=(.seq (.reg (oG 3 18) [9,10,16,17,18,19]) (.seq (.regD (oG 3 19) [9,10,16,17,18,19,20,21] [[],[],[],[1,2],[1,2,3],[0,1,2,3,4],[0,1,2,3,4,5],[0,1,2,3,4,5,6],[0,1,2,3,4,5,6],[0,1,2,3,4,5,6,7],[0,1,2,3,4,5,6,7,8,9]]) (.seq lU (.seq lS ZE))))
theorem RC {l:List Rgt} (h:∀j <l.length,Dt l j=0):(Qk l).get (12,0)=bH (DV (KO l)) 12 0:=by
 have h1:=NN (l:=l) l.length (oN _) h 12 (oN _) 0;have h2:=PW (l:=l) l.length (oN _) h;rw[od]at h1 h2;rw[h2,←h1];rfl
theorem Uh {l:List Rgt} (hz:K1 l=0):∀j <l.length,Dt l j=0:=by
 intro j hj;induction j using Nat.strongRecOn with
 |_ j ih=>
  rcases Decidable.em (Dt l j=0)with h|h
  ·exact h
  ·exact absurd hz (by rw[Mz hj (λi hi=>ih i hi (by omega)) h];exact h)
variable {m:Nat}
theorem b3 (H:List Row) (h0:0 <H.length) (hl:∀row∈H,row.low H.length=true) (hm:m≤2^20) (l:List Rgt) (hok:∀r∈l,r.tiny m) (hn:l.length≤2^30) (LL:List V) (k:Nat) (hk:LL[k]?=some (.list (l.map Rgt.V))) (d10:D) (K:AExit→St→Prop)
  (hK:∀e J,AG e 9= .ref 0 0→AG e 10=d10→AG e 16= .own 25 1 LL→AG e 17= .v (.int .i64 k)→(∀row∈H++J,row.low (H++J).length=true)→K .normal ⟨e,H++J⟩):
  ∀e,AG e 9= .ref 0 0→AG e 10=d10→AG e 16= .own 25 1 LL→AG e 17= .v (.int .i64 k)→awp Tryz.prog Ah mL K ⟨e,H⟩:=by
 intro e f9 f10 f16 f17;have q1:=(mC l (λr hr=>(hok r hr).ok hm) hn).fsp;have q2:=mD H 0 h0 hl hm l hok hn;have q3:=dR;unfold E7 at q3;have hlk:k <LL.length:=(oM.1 hk).1;simp at q1;unfold mL;simp only[AE,AF,AA 3 18];by_cases hz:K1 l=0
 ·rw[if_pos hz,if_pos hz]at q2;have hE:=Uh hz;have hp:PN H (.ref 0 0) l (H++D8 (.ref 0 0) H.length l):=⟨[],by simp,by simp⟩;have hl1:=hp.low (by simp[D.lt,h0]) hl;obtain⟨g0,g1,g2,g3,g4⟩:=hp.get;have hlen1:(H++D8 (.ref 0 0) H.length l).length=H.length+5:=by simp[D8]
  obtain⟨H1,hH1⟩:∃H1,H++D8 (.ref 0 0) H.length l=H1:=⟨_,rfl⟩;rw[hH1]at q2 hl1 g0 g1 g2 g3 g4 hlen1;have q4:=jQ H1 hl1 hm [.list [],.list [.int .i64 0],.list [.int .i64 0],.list [.int .i64 1,.int .i64 2],.list [],.list [.int .i64 4]] l hok hn;rw[if_pos hz,if_pos hz]at q4;have hl2:=QE hl1 (.list [.list [],.list [.int .i64 0],.list [.int .i64 0],.list [.int .i64 1,.int .i64 2],.list [],.list [.int .i64 4]]) l;have get2:∀i x,H1[i]?=some x→(HR H1 (.v (.list [.list [],.list [.int .i64 0],.list [.int .i64 0],.list [.int .i64 1,.int .i64 2],.list [],.list [.int .i64 4]])) l)[i]?=some x:=λi x hx=>AV _ hx;have b0:(HR H1 (.v (.list [.list [],.list [.int .i64 0],.list [.int .i64 0],.list [.int .i64 1,.int .i64 2],.list [],.list [.int .i64 4]])) l)[H1.length]?=some (G0 (KO l)):=by simp[HR]
  have b1:(HR H1 (.v (.list [.list [],.list [.int .i64 0],.list [.int .i64 0],.list [.int .i64 1,.int .i64 2],.list [],.list [.int .i64 4]])) l)[H1.length+1]?=some (RR (.v (.list [.list [],.list [.int .i64 0],.list [.int .i64 0],.list [.int .i64 1,.int .i64 2],.list [],.list [.int .i64 4]])) H1.length (PP l)):=by simp[HR]
  have hap:∃J,HR H1 (.v (.list [.list [],.list [.int .i64 0],.list [.int .i64 0],.list [.int .i64 1,.int .i64 2],.list [],.list [.int .i64 4]])) l=H++J:=by rw[←hH1];exact⟨_,by rw[HR,oR]⟩
  have a0:=get2 _ _ g0;have a2:=get2 _ _ g2;have a3:=get2 _ _ g3;have a4:=get2 _ _ g4;obtain⟨H2,hH2⟩:∃H2,HR H1 (.v (.list [.list [],.list [.int .i64 0],.list [.int .i64 0],.list [.int .i64 1,.int .i64 2],.list [],.list [.int .i64 4]])) l=H2:=⟨_,rfl⟩;rw[hH2]at q4 hl2 b0 b1 hap a0 a2 a3 a4;have c1:=nT H2 (H.length+4) (H.length+3) (H.length+2) _ _ _ (Qk l) a4 a3 a2;have hpl:=Ka l l.length (oN _);have hpm:=In l l.length (oN _);rw[od]at hpl hpm;have c2:=nS H2 H1.length (KO l) b0 (by omega) (by
   intro p hp;obtain⟨r,hr,rfl⟩:=oP.1 ((hpm p).1 hp);exact⟨NY (hok r hr) hm,Hm (hok r hr) hm⟩)
  have c3:=nR H2 (H.length+4) H.length _ _ (Hi l) a4 a0;have hkl:=S6 (l:=l) l.length (oN _) hE;rw[od]at hkl;rw[hkl,oi]at c3;rw[RC hE]at c1;obtain⟨Z,hZ⟩:∃Z,(bH (DV (KO l)) 12 0).getD 0=Z:=⟨_,rfl⟩;rw[hZ]at c1 c2;obtain⟨J,hJ⟩:=hap;have hK2:∀e,AG e 9= .ref 0 0→AG e 10=d10→AG e 16= .own 25 1 LL→AG e 17= .v (.int .i64 k)→K .normal ⟨e,H2⟩:=by
   intro e a b c d;rw[hJ]at hl2 ⊢;exact hK e J a b c d hl2
  simp[f9,f16,f17,hk];refine⟨_,_,(q1 _),?_⟩;simp;refine⟨_,_,q2,?_⟩;simp only[AS,AA 3 19];simp;refine⟨_,_,⟨rfl,rfl⟩,_,q3,?_⟩;simp[f9,f10,f16,f17,hk];refine⟨_,_,q4,?_⟩;simp[lU,AE,AF,AK,AA 3 20,AD];rw[lS,Bf];refine Bg _ (λs hs=>⟨s,.inl rfl,hs⟩) ?_;simp only[AA 3 22];simp[b1,RR]
  constructor
  ·refine⟨_,_,c1,?_⟩;simp[b1,RR];refine⟨_,_,c2,?_⟩;simp[hk]
   constructor
   ·refine⟨_,_,c3,?_⟩;simp[ZE,AK,AD];exact hK2 _ (by simp) (by simp) (by simp) (by simp)
   ·refine⟨_,_,c3,?_⟩;simp[ZE,AK,AD];exact hK2 _ (by simp) (by simp) (by simp) (by simp)
  ·refine⟨_,_,c1,?_⟩;simp;refine⟨_,_,c2,?_⟩;simp[hk]
   constructor
   ·refine⟨_,_,c3,?_⟩;simp[ZE,AK,AD];exact hK2 _ (by simp) (by simp) (by simp) (by simp)
   ·refine⟨_,_,c3,?_⟩;simp[ZE,AK,AD];exact hK2 _ (by simp) (by simp) (by simp) (by simp)
 ·rw[if_neg hz,if_neg hz]at q2;have q4:=jQ H hl hm [.list [],.list [.int .i64 0],.list [.int .i64 0],.list [.int .i64 1,.int .i64 2],.list [],.list [.int .i64 4]] l hok hn;rw[if_neg hz,if_neg hz]at q4;simp[f9,f16,f17,hk];refine⟨_,_,(q1 _),?_⟩;simp;refine⟨_,_,q2,?_⟩;simp only[AS,AA 3 19];simp;refine⟨_,_,⟨rfl,rfl⟩,_,q3,?_⟩;simp[f9,f10,f16,f17,hk];refine⟨_,_,q4,?_⟩;simp[lU,AE,AF,AK,AA 3 20,hz,AD];rw[lS,Bf];refine Bg _ (λs hs=>⟨s,.inl rfl,hs⟩) ?_;simp only[AA 3 22];simp[ZE,AK,AD];simpa using hK _ [] (by simp) (by simp) (by simp) (by simp) (by simpa using hl)
end
end Go.Va
