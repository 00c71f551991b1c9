/- Laws that ExtractBytes leans on, part 27. No condition of its own. -/
import Derived.Test.YtopldfpkgbkomaaGreatDoorL12
import Derived.Test.YtopldfpkgbkomaaGreatDoorL22
import Derived.Test.YtopldfpkgbkomaaGreatDoorL24
set_option linter.all false
set_option maxRecDepth 100000
set_option maxHeartbeats 4000000
noncomputable section
namespace Go.Va
open Go.Proofs
section
def Wk (r:Rgt):Int×List Int:=(r.file,Bg r)
def XC (l:List Rgt):KM:=l.foldl (λK r=>K.set r.file (Bg r)) ⟨[],[],0⟩
def cT (l:List Rgt):HM:=l.foldl (λm r=>Wg 12 0 r.file (NA r.file (Bg r)) m) ⟨[],[],0⟩
def Jy (l:List Rgt) (k:Nat):Int:=
 match l[k]? with
 |none=>0
 |some r=>if Ag r then (if (l.take k).any (λq=>q.file==r.file) then 8 else I9 r.file (Bg r)) else 1
variable {k:Nat}
theorem Rv {l:List Rgt} {r:Rgt} (h:l[k]?=some r):Jy l k=if Ag r then (if (l.take k).any (λq=>q.file==r.file) then 8 else I9 r.file (Bg r)) else 1:=by simp[Jy,h]
theorem IE {α:Type} {l:List α} {x:α} (h:l[k]?=some x):l.take (k+1)=l.take k++[x]:=by rw[qc,h];rfl
theorem Ur (l:List Rgt) (r:Rgt):XC (l++[r])=(XC l).set r.file (Bg r):=by simp[XC]
theorem U1 (l:List Rgt) (r:Rgt):cT (l++[r])=Wg 12 0 r.file (NA r.file (Bg r)) (cT l):=by simp[cT]
theorem V7 (l:List Rgt) (k:Int):(l.map Wk).findIdx? (λx=>x.1==k)=none↔l.any (λq=>q.file==k)=false:=by
 rw[ti,sD];simp[Wk]
end
section
def Re (d:D) (n:Nat) (l:List Rgt):List Row:=[(XC l).row,(XC l).row,(cT l).row,.cells [.mref (n+1),.mref (n+2)],.cells [d,.mref n,.ref (n+3) 0]]
def PN (h:List Row) (d:D) (l:List Rgt) (H:List Row):Prop:=∃J,H=h++(Re d h.length l++J)∧∀row∈J,∀n,row.low n=true
variable {d:D} {h:List Row}
theorem PN.get {H:List Row} {l:List Rgt} (hp:PN h d l H):H[h.length]?=some (XC l).row∧H[h.length+1]?=some (XC l).row∧H[h.length+2]?=some (cT l).row∧
  H[h.length+3]?=some (.cells [.mref (h.length+1),.mref (h.length+2)])∧H[h.length+4]?=some (.cells [d,.mref h.length,.ref (h.length+3) 0]):=by
 obtain⟨J,rfl,hJ⟩:=hp;simp[Re]
theorem PN.set {h H:List Row} {d:D} {l:List Rgt} (hp:PN h d l H) (r:Rgt):
  PN h d (l++[r]) (((H.set (h.length+1) ((XC l).set r.file (Bg r)).row).set (h.length+2) (Wg 12 0 r.file (NA r.file (Bg r)) (cT l)).row).set h.length ((XC l).set r.file (Bg r)).row):=by
 obtain⟨J,rfl,hJ⟩:=hp;refine⟨J,?_,hJ⟩;have e:∀(i:Nat) (x:Row) (t:List Row),(h++t).set (h.length+i) x=h++t.set i x:=by
  intro i x t;rw[sP _ _ (by omega),Nat.add_sub_cancel_left]
 have e0:=λx t=>e 0 x t;simp only[sd]at e0;rw[e,e,e0];simp[Re,Ur,U1]
end
section
variable {m:Nat}
theorem SJ {r:Rgt} (h:r.tiny m) (hm:m≤2^20):(Bg r).length≤2^39:=by
 have h1:=h.lc;have h2:=h.ld;have h3:=h.lb;have h4:=h.lo;have h5:=h.ll;have e0:=Fc h.claims;have e1:=AO r.file;have e2:=AO r.state;have e3:=AO r.force;have e4:=Aw (A8 r.claims).length;have e5:=AO r.dates.length;have e6:=Cr D1 r.dates;have e7:=Fb r.bad;have e8:=AO r.owners.length;have e9:=Cr Dz r.owners;have e10:=AO r.lics.length;have e11:=Cr D0 r.lics;simp only[Bg,AY,qG];omega
theorem aW {r:Rgt} (h:r.tiny m) (hm:m≤2^20):isB (Bg r):=by
 have h1:=h.lc;have h2:=h.ld;have h3:=h.lb;have h4:=h.lo;have h5:=h.ll;have e0:=Fc h.claims;unfold Bg;refine isB.app (isB.app (isB.app (isB.app (isB.app (isB.app (isB.app (isB.app (isB.app (isB.app ?_ ?_) ?_) ?_) ?_) ?_) ?_) ?_) ?_) ?_) ?_
 ·exact isB.encI h.file
 ·exact isB.encI h.state
 ·exact isB.encI h.force
 ·exact isB.encRaw (isB.encClms (λc hc=>(h.claims c hc).ok) (by omega) (by omega)) (by omega)
 ·exact isB.encI (by unfold i64;omega)
 ·exact isB.flat λx hx=>((isB.encI (h.dates x hx).1).app (isB.encI (h.dates x hx).2.1)).app (isB.encI (h.dates x hx).2.2.1) |>.app (isB.encI (h.dates x hx).2.2.2)
 ·exact isB.encInts h.bad (by omega)
 ·exact isB.encI (by unfold i64;omega)
 ·exact isB.flat λx hx=>((isB.encI (h.owners x hx).1).app (isB.encI (h.owners x hx).2.1)).app (isB.encI (h.owners x hx).2.2)
 ·exact isB.encI (by unfold i64;omega)
 ·exact isB.flat λx hx=>((isB.encI (h.lics x hx).1).app (isB.encI (h.lics x hx).2.1)).app (isB.encI (h.lics x hx).2.2.1) |>.app (isB.encI (h.lics x hx).2.2.2)
def Sj (l:List Rgt):Int:=F1 (Jy l) 0 l.length
variable {k:Nat}
theorem Wb {l:List Rgt} (hk:k <l.length) (h:∀j <k,Jy l j=0) (hz:Jy l k≠0):Sj l=Jy l k:=IN _ _ k (rF k) (by omega) (λj _ hj=>h j hj) hz
theorem Mu {l:List Rgt} (h:∀j <l.length,Jy l j=0):Sj l=0:=Fu _ _ λj _ hj=>h j (by omega)
end
section
def JL (R:List Rgt) (f:Int):Nat:=R.findIdx λq=> !decide (q.file <f)
def Im (R:List Rgt) (r:Rgt):List Rgt:=R.take (JL R r.file)++r::R.drop (JL R r.file)
def Ra (l:List Rgt):List Rgt:=l.foldl Im []
def OR (l:List Rgt):List (Int×List Int):=l.foldl (λps r=>Kv ps r.file (Bg r)) []
def RR (dP:D) (n:Nat) (R:List Rgt):Row:= .cells [dP,.own 32 8 (R.map Rgt.V),.ref n 0]
theorem Oe (l:List Rgt) (r:Rgt):Ra (l++[r])=Im (Ra l) r:=by simp[Ra]
theorem LW (l:List Rgt) (r:Rgt):OR (l++[r])=Kv (OR l) r.file (Bg r):=by simp[OR]
theorem Uw (R:List Rgt) (r:Rgt):(Im R r).length=R.length+1:=by
 have:JL R r.file≤R.length:=List.findIdx_le_length;simp[Im];omega
theorem Uy (ps:List (Int×List Int)) (k:Int) (v:List Int):(Kv ps k v).length=ps.length+1:=by
 have:MV ps k≤ps.length:=List.findIdx_le_length;simp[Kv];omega
theorem Ux {ps:List (Int×List Int)} {k:Int} {v:List Int} {p:Int×List Int}:p∈Kv ps k v↔p=(k,v)∨p∈ps:=by
 unfold Kv;generalize MV ps k=i;have:p∈ps↔p∈ps.take i∨p∈ps.drop i:=by rw[←qW,rJ]
 rw[this];simp only[qW,qL]
 constructor
 ·rintro(h|h|h)
  ·exact .inr (.inl h)
  ·exact .inl h
  ·exact .inr (.inr h)
 ·rintro(h|h|h)
  ·exact .inr (.inl h)
  ·exact .inl h
  ·exact .inr (.inr h)
theorem RZ:∀(l:List Rgt) (k:Nat),k≤l.length→(Ra (l.take k)).length=k
 |l,0,_=>by simp[Ra]
 |l,k+1,hk=>by
  obtain⟨r,hr⟩:∃r,l[k]?=some r:=⟨_,qH (by omega)⟩;rw[IE hr,Oe,Uw,RZ l k (by omega)]
theorem Ni:∀(l:List Rgt) (k:Nat),k≤l.length→(OR (l.take k)).length=k
 |l,0,_=>by simp[OR]
 |l,k+1,hk=>by
  obtain⟨r,hr⟩:∃r,l[k]?=some r:=⟨_,qH (by omega)⟩;rw[IE hr,LW,Uy,Ni l k (by omega)]
theorem K3:∀(l:List Rgt) (k:Nat),k≤l.length→∀p,p∈OR (l.take k)↔p∈(l.take k).map Wk
 |l,0,_,p=>by simp[OR]
 |l,k+1,hk,p=>by
  obtain⟨r,hr⟩:∃r,l[k]?=some r:=⟨_,qH (by omega)⟩;rw[IE hr,LW,Ux,K3 l k (by omega),qh,qW];simp[Wk,or_comm]
variable {k:Nat}
theorem UV {l:List Rgt} (hk:k≤l.length) (f:Int):(OR (l.take k)).findIdx? (λp=>p.1==f)=none↔(l.take k).any (λq=>q.file==f)=false:=by
 rw[←V7,ti,ti]
 constructor
 ·intro h p hp;exact h p ((K3 l k hk p).2 hp)
 ·intro h p hp;exact h p ((K3 l k hk p).1 hp)
theorem Qs (l:List Rgt):BG 8 (l.map Rgt.V)=true:=by cases l<;>rfl
theorem pw (H:List Row) (x n:Nat) (dP:D) (R:List Rgt) (hx:H[x]?=some (RR dP n R)) (hR:R.length≤2^30) (l:List Rgt) (i:Nat) (r:Rgt) (hxk:l[i]?=some r):
  awp Tryz.prog An (.loop (lG 15 1)) (λe s=>e= .exit 2∧AF s.e 1= .v (.list (l.map Rgt.V))∧AF s.e 6= .ref x 0∧AF s.e 7= .v (.int .i64 i)∧AF s.e 11= .v (.int .i64 (JL R r.file))∧s.h=H)
   ⟨[(1,.v (.list (l.map Rgt.V))),(6,.ref x 0),(7,.v (.int .i64 i)),(11,.v (.int .i64 0))],H⟩:=by
 have hT:JL R r.file≤R.length:=List.findIdx_le_length;refine AM (JL R r.file) (λk=>⟨[(1,.v (.list (l.map Rgt.V))),(6,.ref x 0),(7,.v (.int .i64 i)),(11,.v (.int .i64 k))],H⟩) (by simp) ?_;intro k hk;simp only[Zw,BA 15 1,AW,AA 15 14];simp[hx,RR];by_cases hlt:k <JL R r.file
 ·have hil:k <R.length:=by omega
  obtain⟨p,hp⟩:∃p,R[k]?=some p:=⟨_,qH hil⟩;have hpe:R[k]=p:=(qK.1 hp).2;have hnot:=List.not_of_lt_findIdx hlt;have hpk:p.file <r.file:=by rw[←hpe];simpa using hnot
  have hw:=Bo k;have hil':(k:Int) <R.length:=by omega
  simp[hil,hxk,Rgt.V,Rgt.cs,hpk,AB,AA 15 15,hw,hlt,hpe]
 ·have hi2:k=JL R r.file:=by omega
  by_cases hil:k <R.length
  ·obtain⟨p,hp⟩:∃p,R[k]?=some p:=⟨_,qH hil⟩;have hpe:R[k]=p:=(qK.1 hp).2;have hstop:¬p.file <r.file:=by
    have e:R.findIdx (λq=> !decide (q.file <r.file))=k:=hi2.symm;have:=List.findIdx_getElem (p:=λq:Rgt=> !decide (q.file <r.file)) (xs:=R) (w:=by rw[e];exact hil);simp only[e]at this;rw[hpe]at this;simpa using this
   simp[hil,hxk,Rgt.V,Rgt.cs,hstop,AJ,hpe];omega
  ·simp[hil,AJ];omega
end
section
def HR (h:List Row) (dP:D) (l:List Rgt):List Row:=h++[IX (OR l),RR dP h.length (Ra l)]
def bZ:AC:=(.seq (.reg (oG 15 13) [1,6,7,11]) (.seq (.block 2 (.loop (lG 15 1))) (.seq (.reg (oG 15 16) [1,6,7,11,12]) (.seq (.regD (oG 15 17) [1,6,7,11,12] [[],[],[1],[1,2],[1,2,3],[],[1,2,3,4,5],[0,1,2,3,4,5,6],[],[],[8,9],[8,9,10],[8,9,10,11],[0,1,2,3,4,5,6,7,8,9,10,11,12],[0,1,2,3,4,5,6,7,8,9,10,11,12,13]]) (.reg (oG 15 18) [1,6,7])))))
def ba:AC:=(.seq (.reg (oG 15 11) [1,6,7,10,58]) (.cond (.t 58 false) (.seq (.reg (oG 15 12) [4,5]) .ret) .skip))
def iH:AC:=(.seq (.regD (oG 15 8) [1,6,7,8,45] [[],[0],[0,1],[0,1,2],[],[],[4,5],[4,5,6],[4,5,6,7],[0,1,2,3,4,5,6,7,8],[0,1,2,3,4,5,6,7,8,9]]) (.cond (.t 45 false) (.seq (.reg (oG 15 9) [4,5]) .ret) .skip))
def bd:AC:=(.seq (.reg (oG 15 6) [1,6,7,8,9,33]) (.cond (.t 33 false) (.seq (.reg (oG 15 7) [4,5]) .ret) .skip))
def bY:AC:=(.seq (.reg (oG 15 5) [1,6,7,8,9]) (.seq bd (.seq iH (.seq (.regD (oG 15 10) [1,6,7,10] [[],[0],[0,1],[0,1,2],[],[],[4,5],[4,5,6],[4,5,6,7],[],[0,1,2,3,4,5,6,7,8,9],[0,1,2,3,4,5,6,7,8,9,10]]) (.seq ba bZ)))))
theorem Vt:(lG 15 0)=(.seq (.seq (.reg (oG 15 3) [1,6,7,21]) (.cond (.t 21 false) .skip (.exit 0))) (.seq (.block 1 bY) (.reg (oG 15 4) [1,6,7]))):=(BA 15 0 :)
theorem oz (H:List Row) (x n:Nat) (dP:D) (R:List Rgt) (hx:H[x]?=some (RR dP n R)) (hR:R.length≤2^30) (l:List Rgt) (i:Nat) (r:Rgt) (hxk:l[i]?=some r) (K:AExit→St→Prop)
  (hK:∀e,AF e 1= .v (.list (l.map Rgt.V))→AF e 6= .ref x 0→AF e 7= .v (.int .i64 i)→K .normal ⟨e,H.set x (RR dP n (Im R r))⟩):
  ∀e,AF e 1= .v (.list (l.map Rgt.V))→AF e 6= .ref x 0→AF e 7= .v (.int .i64 i)→awp Tryz.prog An bZ K ⟨e,H⟩:=by
 intro e f1 f6 f7;have q:=pw H x n dP R hx hR l i r hxk;have hT:JL R r.file≤R.length:=List.findIdx_le_length;have hho:=Qs R;have room:∀(m:Nat),m≤2^31→AK m 144=true:=by intro m hm;simp[AK];omega
 have hres:RR dP n (Im R r)= .cells [dP,.own 32 8 ((R.map Rgt.V).take (JL R r.file)++r.V::(R.map Rgt.V).drop (JL R r.file)),.ref n 0]:=by simp[RR,Im,rE,ro]
 rw[hres]at hK;generalize JL R r.file=p at*;have hx':H[x]?=some (.cells [dP,.own 32 8 (R.map Rgt.V),.ref n 0]):=hx;have tkl:(R.map Rgt.V).take R.length=R.map Rgt.V:=qw (by simp);have hhd:BG 8 ((R.map Rgt.V).drop p)=true:=by rw[←ro];exact Qs _
 have hht:BG 8 ((R.map Rgt.V).take p)=true:=by rw[←rE];exact Qs _
 have hmin:min p R.length=p:=by omega
 have rm0:=room p (by omega);have rm1:=room (p+1) (by omega);have rm2:=room (p+1+(R.length-p)) (by omega);have hrl:r.V.cells.length=8:=rfl;unfold bZ;simp only[AE,AG,AU,AA 15 13];simp[f1,f6,f7];refine AZ _ ?_ q;rintro e2 ⟨se,sh⟩ ⟨rfl,g1,g6,g7,g11,hh⟩;simp only at g1 g6 g7 g11 hh;subst hh;simp[AA 15 16,g1,g6,g7,g11];simp[AW,AA 15 17,hx',hho,hT,hht,hmin,rm0,rm1,hxk,Rgt.V,Rgt.cs];simp[AA 15 18,hx',hho,hhd,hT,tkl,hmin,rm2];refine hK _ ?_ ?_ ?_
 all_goals simp
theorem YB (h:List Row) (dP:D) (l:List Rgt) (r:Rgt):((HR h dP l).set h.length (IX (Kv (OR l) r.file (Bg r)))).set (h.length+1) (RR dP h.length (Im (Ra l) r))=HR h dP (l++[r]):=by
 simp[HR,LW,Oe]
theorem qD (h:List Row) (dP:D) (l:List Rgt) (k:Nat) (r:Rgt) (hr:r.ok) (hlen:(Bg r).length≤2^39) (hxk:l[k]?=some r) (hk:k≤l.length) (hn:l.length≤2^30)
  (hE:∀j <k,Jy l j=0) (K:AExit→St→Prop)
  (hret:Jy l k≠0→∀e H',AF e 4= .v .nilp→AF e 5= .v (.int .i64 (Jy l k))→(∃J,H'=h++J)→K .ret ⟨e,H'⟩)
  (hok:Jy l k=0→∀e,AF e 1= .v (.list (l.map Rgt.V))→AF e 6= .ref (h.length+1) 0→AF e 7= .v (.int .i64 k)→K .normal ⟨e,HR h dP (l.take (k+1))⟩):
  ∀e,AF e 1= .v (.list (l.map Rgt.V))→AF e 6= .ref (h.length+1) 0→AF e 7= .v (.int .i64 k)→awp Tryz.prog An bY K ⟨e,HR h dP (l.take k)⟩:=by
 intro e f1 f6 f7;have p1:=(oQ r hr).fsp;have hne:=Rv hxk;have hkl:=Ni l k hk;have hJ:∃J,HR h dP (l.take k)=h++J:=⟨_,rfl⟩;have g0:(HR h dP (l.take k))[h.length]?=some (IX (OR (l.take k))):=by simp[HR]
 have g1:(HR h dP (l.take k))[h.length+1]?=some (RR dP h.length (Ra (l.take k))):=by simp[HR]
 have hset:=YB h dP (l.take k) r;rw[←IE hxk]at hset;have p2:=pK (HR h dP (l.take k)) h.length (OR (l.take k)) g0 (by omega) r.file;have hfi:=UV hk r.file;have hRl:=RZ l k hk;obtain⟨H,hH⟩:∃H,HR h dP (l.take k)=H:=⟨_,rfl⟩;rw[hH]at hJ g0 g1 hset p2 ⊢;simp[Rgt.V,Rgt.cs,AH]at p1;unfold bY;simp only[AE,AG,AA 15 5];simp[f1,f7,hxk,Rgt.V,Rgt.cs,AH];refine⟨_,_,p1 _,?_⟩;cases hf:Ag r with
 |false=>
  rw[hf]at hne;simp at hne;simp[bd,AE,AG,AL,AA 15 6,AA 15 7,AD];exact hret (by rw[hne];decide) _ _ (by simp) (by simp[hne]) hJ
 |true=>
  rw[hf]at hne;simp only[if_true]at hne;simp[bd,AE,AG,AL,AA 15 6,AB];simp only[iH,AE,AW,AG,AL,AA 15 8];simp[f1,f6,f7,g1,RR,hxk,Rgt.V,Rgt.cs];refine⟨_,_,p2,?_⟩;cases hi:(OR (l.take k)).findIdx? (λp=>p.1==r.file)with
  |some i=>
   have hany:(l.take k).any (λq=>q.file==r.file)=true:=by
    cases ha:(l.take k).any (λq=>q.file==r.file)with
    |true=>rfl
    |false=>rw[←hfi,hi]at ha;cases ha
   rw[if_pos hany]at hne;simp[HI,AA 15 9,AD];exact hret (by rw[hne];decide) _ _ (by simp) (by simp[hne]) hJ
  |none=>
   have hnone:=hfi.1 hi;rw[hnone]at hne;simp only[qY,if_false]at hne;have hab:∀p∈OR (l.take k),p.1≠r.file:=by
    rw[ti]at hi;intro p hp;simpa using hi p hp
   have p3:=pH H h.length (OR (l.take k)) g0 (by omega) r.file (Bg r) hlen hab;simp[HI,AB,AA 15 10];simp[AH]at p3;simp[g1,RR,hxk,Rgt.V,Rgt.cs];by_cases hz:I9 r.file (Bg r)=0
   ·rw[hz,if_pos rfl]at p3;rw[hz]at hne;refine⟨_,_,p3,?_⟩;simp[ba,AE,AG,AL,AA 15 11,AB];refine oz (H.set h.length (IX (Kv (OR (l.take k)) r.file (Bg r)))) (h.length+1) h.length dP (Ra (l.take k)) (by rw[qz (by omega)];exact g1) (by omega) l k r hxk _ ?_ _ (by simp) (by simp) (by simp);intro e2 h1 h6 h7;rw[hset];exact hok hne _ h1 h6 h7
   ·rw[if_neg hz]at p3;refine⟨_,_,p3,?_⟩;simp[hz,ba,AE,AG,AL,AA 15 11,AA 15 12,AD];exact hret (by rw[hne];exact hz) _ _ (by simp) (by simp[hne]) hJ
variable {h:List Row}
theorem WH (hl:∀row∈h,row.low h.length=true) (v:V) (l:List Rgt):∀row∈HR h (.v v) l,row.low (HR h (.v v) l).length=true:=by
 have hlen:(HR h (.v v) l).length=h.length+2:=by simp[HR]
 intro row hrow;rw[hlen];rcases qW.1 hrow with hrow|hrow
 ·exact Row.low_mono (by omega) (hl row hrow)
 ·simp only[qL,qn,or_false]at hrow;rcases hrow with rfl|rfl
  ·simp[IX,Row.low,D.lts,D.lt]
  ·simp[RR,Row.low,D.lts,D.lt]
variable {m:Nat}
theorem pX (h:List Row) (hl:∀row∈h,row.low h.length=true) (hm:m≤2^20) (vs:List V) (l:List Rgt) (hok:∀r∈l,r.tiny m) (hn:l.length≤2^30):
  FX 15 [.v (.list vs),.v (.list (l.map Rgt.V))] h (if Sj l=0 then [.ref (h.length+1) 0,.v (.int .i64 0)] else [.v .nilp,.v (.int .i64 (Sj l))]) (if Sj l=0 then HR h (.v (.list vs)) l else h):=by
 refine CW (KN 15) rfl ?_ ?_ ?_ ?_
 ·split<;>simp[HR]
 ·split
  ·exact WH hl (.list vs) l
  ·exact hl
 ·split
  ·simp[D.lt,HR]
  ·simp[D.lt]
 simp only[At 15,AE,AG,AU,AA 15 0,AA 15 1,Ab];simp[AS,AA 15 2];have e0:h++[Row.cells [.own 200 2 []],Row.cells [.v (.list vs),.own 32 8 [],.ref h.length 0]]=HR h (.v (.list vs)) []:=by simp[HR,IX,OR,Ra,RR]
 rw[e0];refine Al l.length (λk s=>s.e=[(1,.v (.list (l.map Rgt.V))),(6,.ref (h.length+1) 0),(7,.v (.int .i64 k))]∧(∀j <k,Jy l j=0)∧s.h=HR h (.v (.list vs)) (l.take k)) ⟨by simp,λj hj=>by omega,by simp⟩ ?_;rintro k ⟨se,H⟩ hk ⟨he,hE,hp⟩;simp only at he hp;subst he hp;rw[Vt];simp only[Zw,AA 15 3];simp;by_cases hlt:k <l.length
 ·obtain⟨r,hxk⟩:∃r,l[k]?=some r:=⟨_,qH hlt⟩;have hr:=hok r (qJ hxk);have hw:=Bo k;rw[if_pos (by omega),AB];refine qD h (.v (.list vs)) l k r (hr.ok hm) (SJ hr hm) hxk hk hn hE _ ?_ ?_ _ (by simp) (by simp) (by simp)
  ·intro hz e H' h4 h5 hJ;simp only[Wb hlt hE hz,if_neg hz];simp[AX 15,h4,h5,hJ]
  ·intro hz e f1 f6 f7;simp[AA 15 4,f1,f6,f7,hw,hlt];intro j hj;rcases qi j k with h|h
   ·exact hE j h
   ·have:j=k:=by omega
    subst this;exact hz
 ·have:k=l.length:=by omega
  subst this;rw[if_neg (by omega),AJ];simp[AA 15 19,AD,AX 15,Mu hE]
end
open Go.Proofs
end Go.Va
