/- Laws that ExtractAnswers leans on, part 10. No condition of its own. -/
import Derived.Test.YtopldfpkgbkomaaGreatDoorL08
set_option linter.all false
set_option maxRecDepth 100000
set_option maxHeartbeats 4000000
noncomputable section
namespace Go.Va
open Go.Proofs
section
variable {row:Row} {m n:Nat}
theorem Row.low_mono (h:n≤m) (hr:Row.low n row=true):Row.low m row=true:=by
 cases row with
 |cells ds=>
  simp only[Row.low]at hr ⊢;exact Et λd hd=>by
   obtain⟨i,hi⟩:=rQ hd;exact Eb h d (FT hr hi)
 |_=>exact hr
theorem HM.row_new {m:HM} {k:Int×Int} (v:Int) (h:(m.E.findIdx? λx=>x.1==k)=none):(m.set k v).row= .map (m.E.map IU++[IU (k,v)]) (m.st++[m.ck]) (m.ck+1):=by
 have h1:m.get k=none:=by rw[HM.get,Fo,h];rfl
 have h2:=LO k v m.E;rw[h]at h2;simp[HM.set,h1,HM.row,h2]
variable {i:Nat}
theorem HM.row_old {m:HM} {k:Int×Int} (v:Int) (h:(m.E.findIdx? λx=>x.1==k)=some i):(m.set k v).row= .map ((m.E.map IU).set i (IU (k,v))) m.st m.ck:=by
 have hlt:=(qu.1 h).1;have h1:m.get k=some (m.E[i]).2:=by rw[HM.get,Fo,h];simp[hlt]
 have h2:=LO k v m.E;rw[h]at h2;simp[HM.set,h1,HM.row,h2,List.map_set]
structure PFm (h:List Row) (q:Nat) (m:HM) (c x:Nat) (w j n:Int) (H:List Row):Prop where
 pre:H.take h.length=h.set q m.row
 hc:H[c]?=some (.cells [.v (.int .u64 w),.v (.bool true)])
 hx:H[x]?=some (.cells [.v (.int .i64 j),.v (.int .i64 n)])
 lc:h.length≤c
 lx:h.length≤x
 ne:c≠x
 low:∀row∈H.drop h.length,Row.low 0 row=true
variable {r:Nat}
section
variable {h:List Row} {q:Nat} {m:HM} {c x:Nat} {w j n:Int} {H:List Row}
theorem PFm.len (hF:PFm h q m c x w j n H):h.length≤H.length:=Nat.le_of_lt (Nat.lt_of_le_of_lt hF.lc (Cg hF.hc))
theorem PFm.get (hF:PFm h q m c x w j n H) (hi:i <h.length):H[i]?=(h.set q m.row)[i]?:=by
 rw[←hF.pre,oz,if_pos hi]
theorem PFm.gq (hF:PFm h q m c x w j n H) {y:Row} (hq:h[q]?=some y):H[q]?=some m.row:=by
 rw[hF.get (Cg hq),CQ hq]
theorem PFm.gr (hF:PFm h q m c x w j n H) {y:Row} (hr:h[r]?=some y) (hn:r≠q):H[r]?=some y:=by
 rw[hF.get (Cg hr),ot (Ne.symm hn)];exact hr
theorem PFm.app (hF:PFm h q m c x w j n H) (hl:Row.low 0 row=true):PFm h q m c x w j n (H++[row]) where
 pre:=by rw[qp hF.len];exact hF.pre
 hc:=AV _ hF.hc
 hx:=AV _ hF.hx
 lc:=hF.lc
 lx:=hF.lx
 ne:=hF.ne
 low:=by
  rw[List.drop_append_of_le_length hF.len];intro row hr;rcases oc.1 hr with hr|hr
  ·exact hF.low row hr
  ·simp at hr;subst hr;exact hl
theorem KD {L c:Nat} {y:Row} (h:L≤c):(H.set c y).drop L=(H.drop L).set (c-L) y:=by
 rw[List.drop_set,if_neg (by omega)]
theorem PFm.setc (hF:PFm h q m c x w j n H) (w':Int):PFm h q m c x w' j n (H.set c (.cells [.v (.int .u64 w'),.v (.bool true)])) where
 pre:=by rw[List.take_set,List.set_eq_of_length_le (by simp;have:=hF.lc;omega)];exact hF.pre
 hc:=CQ hF.hc
 hx:=by rw[ot hF.ne];exact hF.hx
 lc:=hF.lc
 lx:=hF.lx
 ne:=hF.ne
 low:=by
  rw[KD hF.lc];intro row hr;rcases pk hr with hr|rfl
  ·exact hF.low row hr
  ·rfl
theorem PFm.setx (hF:PFm h q m c x w j n H) (j' n':Int):PFm h q m c x w j' n' (H.set x (.cells [.v (.int .i64 j'),.v (.int .i64 n')])) where
 pre:=by rw[List.take_set,List.set_eq_of_length_le (by simp;have:=hF.lx;omega)];exact hF.pre
 hc:=by rw[ot (Ne.symm hF.ne)];exact hF.hc
 hx:=CQ hF.hx
 lc:=hF.lc
 lx:=hF.lx
 ne:=hF.ne
 low:=by
  rw[KD hF.lx];intro row hr;rcases pk hr with hr|rfl
  ·exact hF.low row hr
  ·rfl
theorem PFm.newx (hF:PFm h q m c x w j n H) (j' n':Int):PFm h q m c H.length w j' n' (H++[.cells [.v (.int .i64 j'),.v (.int .i64 n')]]):=
 have hA:=hF.app (row:= .cells [.v (.int .i64 j'),.v (.int .i64 n')]) rfl
 {pre:=hA.pre,hc:=hA.hc,hx:=Hj _ _,lc:=hF.lc,lx:=hF.len,ne:=Nat.ne_of_lt (Cg hF.hc),low:=hA.low}
theorem PFm.setq (hF:PFm h q m c x w j n H) (hq:q <h.length) (m':HM):PFm h q m' c x w j n (H.set q m'.row) where
 pre:=by rw[List.take_set,hF.pre,qc]
 hc:=by rw[ot (by have:=hF.lc;omega)];exact hF.hc
 hx:=by rw[ot (by have:=hF.lx;omega)];exact hF.hx
 lc:=hF.lc
 lx:=hF.lx
 ne:=hF.ne
 low:=by rw[List.drop_set_of_lt hq];exact hF.low
theorem PFm.all (hF:PFm h q m c x w j n H) (hl:∀row∈h,Row.low h.length row=true):∀row∈H,Row.low H.length row=true:=by
 intro row hr;rw[←pQ h.length H]at hr;rcases oc.1 hr with hr|hr
 ·rw[hF.pre]at hr;rcases pk hr with hr|rfl
  ·exact Row.low_mono hF.len (hl row hr)
  ·rfl
 ·exact Row.low_mono (pg _) (hF.low row hr)
end
variable {H:List Row} {j:Nat}
theorem bg (h:List Row) (r q:Nat) (d:D) (y:Row) (hr:h[r]?=some (.cells [d,.mref q])) (hq:h[q]?=some y) (hn:r≠q) (hl:∀row∈h,Row.low h.length row=true)
  {m:HM} {c x:Nat} {w n v:Int} (hF:PFm h q m c x w j n H) (hj:j≤12) (hn0:0≤n) (hn1:n≤4096)
  (hv:(j=0∧w=v)∨(0 <j∧EX (m.get ((j:Int)-1,2*n)) (m.get ((j:Int)-1,2*n+1))=some v)) (Q:AExit→St→Prop)
  (hQ:∀e' H',AG e' 0= .ref r 0→AG e' 5= .ref c 0→AG e' 6= .ref x 0→PFm h q m c x v j n H'→Q .normal ⟨e',H'⟩):
  awp Tryz.prog Ah (.seq (.reg (oG 132 3) [0,5,6,20]) (.cond (.t 20 false) (.seq (.reg (oG 132 4) [0,5,6,7,8]) (.regA (oG 132 5) [0,5,6] [[],[],[0,1],[],[],[0,1,2,3,4],[0,1,2,3,4,5],[0,1,2,3,4,5,6]] (.take 0 (.take 1 (.take 3 (.take 4 (.take 2 (.take 5 (.take 6 (.take 7 .done)))))))))) .skip)) Q
   ⟨[(0,.ref r 0),(5,.ref c 0),(6,.ref x 0)],H⟩:=by
 simp only[AE,AF,AK,AA 132 3];simp[hF.hx];rcases hv with ⟨rfl,rfl⟩|⟨h0,hv⟩
 ·simp[AD];exact hQ _ H rfl rfl rfl hF
 ·rw[if_pos h0];have p1:=(Z8 j n ⟨by omega,by omega⟩ ⟨hn0,hn1⟩).fsp;simp[Cz]at p1;simp only[AA 132 4];simp[hF.hx];refine⟨_,_,p1 _,?_⟩;simp[AO];have hF2:=(hF.app (row:= .cells [.v (.int .i64 (j-1)),.v (.int .i64 (2*n))]) rfl).app (row:= .cells [.v (.int .i64 (j-1)),.v (.int .i64 (2*n+1))]) rfl;simp only[oR,pl,qz]at hF2;have g1:=Zv _ r q m (j-1) (2*n) d (hF2.gr hr hn) (hF2.gq hq) (hF2.all hl);have g2:=Zv _ r q m (j-1) (2*n+1) d (hF2.gr hr hn) (hF2.gq hq) (hF2.all hl);have g3:=iw (m.get (j-1,2*n)) (m.get (j-1,2*n+1));rw[hv]at g3;have e3:IF (some v)= .agg [.int .u64 v,.bool true]:=rfl;rw[e3]at g3;have hF3:=hF2.setc v;have hcc:=hF2.hc;generalize IF (m.get (j-1,2*n))=s1 at*;generalize IF (m.get (j-1,2*n+1))=s2 at*;simp only[Cz]at g1 g2;rw[Bf];refine Bg _ (λs hs=>⟨s,.inl rfl,hs⟩) ?_;simp only[AA 132 5];simp;refine⟨_,_,g1,⟨[],by simp⟩,?_⟩;simp;refine⟨_,_,g2,⟨[],by simp⟩,?_⟩;simp;refine⟨_,_,⟨rfl,rfl⟩,_,g3,?_⟩;simp[hcc,AO];exact hQ _ _ rfl rfl rfl hF3
variable {e:CB}
theorem bf (h:List Row) (r q:Nat) (d:D) (y:Row) (hr:h[r]?=some (.cells [d,.mref q])) (hq:h[q]?=some y) (hn:r≠q)
  {m:HM} {c x:Nat} {n v:Int} (f0:AG e 0= .ref r 0) (f5:AG e 5= .ref c 0) (f6:AG e 6= .ref x 0) (hF:PFm h q m c x v j n H) (Q:AExit→St→Prop)
  (hret:j=12→n=0→∀e2 H2,PFm h q (m.set ((j:Int),n) v) c x v j n H2→Q .ret ⟨e2,H2⟩)
  (hgo:¬((j:Int)=12∧n=0)→∀e2 H2,AG e2 5= .ref c 0→AG e2 6= .ref x 0→AG e2 0= .ref r 0→PFm h q (m.set ((j:Int),n) v) c x v j n H2→Q .normal ⟨e2,H2⟩):
  awp Tryz.prog Ah (.seq (.seq (.reg (oG 132 6) [0,5,6,34]) (.cond (.t 34 false) (.regD (oG 132 7) [0,5,6] [[],[0],[0,1],[0,1,2],[],[],[5],[0,1,2,3,4,5,6]]) (.regD (oG 132 8) [0,5,6] [[],[0],[0,1],[0,1,2],[],[0,1,2,3,4]])))
   (.seq (.reg (oG 132 9) [0,5,6,49]) (.cond (.t 49 false) .ret .skip))) Q ⟨e,H⟩:=by
 have hmf:=Is j n m.E;have hqq:H[q]?=some (.map (m.E.map IU) m.st m.ck):=hF.gq hq;have hrr:=hF.gr hr hn;have hc:=hF.hc;have hx:=hF.hx;have hF2:=hF.setq (Cg hq) (m.set ((j:Int),n) v);have hx2:=hF2.hx;have eq2:=Ta j n 12 0;simp only[AE,AF,AK,AA 132 6];simp[f0,f5,f6,hc];simp only[AS,AA 132 7];simp[hrr,hc,hx,hqq,hmf,Bj,V.eqL,V.eq1];have fin:∀row,row=(m.set ((j:Int),n) v).row→Bz Tryz.prog Ah (oG 132 9) (λs'=>match (AG s'.e 49).copy with
   | .v (.bool t)=>if t then awp Tryz.prog Ah .ret Q ⟨[(0,AG s'.e 0),(5,AG s'.e 5),(6,AG s'.e 6),(49,AG s'.e 49)],s'.h⟩ else awp Tryz.prog Ah .skip Q ⟨[(0,AG s'.e 0),(5,AG s'.e 5),(6,AG s'.e 6),(49,AG s'.e 49)],s'.h⟩
   |_=>False) ⟨[(0,.ref r 0),(5,.ref c 0),(6,.ref x 0)],H.set q row⟩:=by
  rintro row rfl;simp only[AA 132 9];simp[hx2,eq2];by_cases hd:(j:Int)=12∧n=0
  ·rw[if_pos hd];exact hret (by omega) hd.2 _ _ hF2
  ·rw[if_neg hd];exact hgo hd _ _ rfl rfl rfl hF2
 cases hi:m.E.findIdx? (λx=>x.fst==((j:Int),n))with
 |none=>
  simp;exact fin _ (HM.row_new v hi).symm
 |some i=>
  simp;exact fin _ (HM.row_old v hi).symm
theorem be (h:List Row) (q:Nat) {m:HM} {c x:Nat} {n v:Int} (f0:AG e 0= .ref r 0) (f5:AG e 5= .ref c 0) (f6:AG e 6= .ref x 0) (hF:PFm h q m c x v j n H)
  (hn0:0≤n) (hn1:n≤4096) (hj:j≤12) (Q:AExit→St→Prop)
  (hgo:∀H2,PFm h q m c H.length v ((j+1:Nat):Int) (n/2) H2→Q .normal ⟨[(0,.ref r 0),(5,.ref c 0),(6,.ref H.length 0)],H2⟩):
  awp Tryz.prog Ah (.seq (.seq (.reg (oG 132 10) [0,5,50]) (.reg (oG 132 11) [0,5,6])) (.reg (oG 132 2) [0,5,6])) Q ⟨e,H⟩:=by
 have w1:IntKind.i64.wrap ((j:Int)+1)=((j+1:Nat):Int):=AL;have w2:IntKind.i64.wrap (n/2)=n/2:=AL;have hx:=hF.hx;have hF2:=(hF.newx j n).setx ((j+1:Nat):Int) (n/2);have e1:(H++[Row.cells [.v (.int .i64 j),.v (.int .i64 n)]]).set H.length (.cells [.v (.int .i64 ((j+1:Nat):Int)),.v (.int .i64 (n/2))])=H++[.cells [.v (.int .i64 ((j+1:Nat):Int)),.v (.int .i64 (n/2))]]:=Uc _ _ _;rw[e1]at hF2;simp only[AE,AF,AA 132 10];simp[f0,f5,f6,hx];simp only[AA 132 11];simp[AO];simp only[AA 132 2];simp[AO,w1,rK hn0,w2];exact hgo _ hF2
theorem kU (h:List Row) (r q:Nat) (d:D) (y:Row) (hr:h[r]?=some (.cells [d,.mref q])) (hq:h[q]?=some y) (hn:r≠q) (hl:∀row∈h,Row.low h.length row=true)
  (n0 v0:Int) (m0:HM) (c0 x0:Nat) (H0:List Row) (hn0:0≤n0) (hn1:n0 <4096) (hF0:PFm h q m0 c0 x0 v0 0 n0 H0):
   awp Tryz.prog Ah (.loop (lG 132 0)) (λe s=>e= .ret∧s.h.take h.length=h.set q (IG 12 0 n0 v0 m0).row) ⟨[(0,.ref r 0),(5,.ref c0 0),(6,.ref x0 0)],H0⟩:=by
 refine AY 12 (λj s=>∃(n v w:Int) (m:HM) (c x:Nat),s.e=[(0,.ref r 0),(5,.ref c 0),(6,.ref x 0)]∧0≤n∧n <((2^(12-j):Nat):Int)∧PFm h q m c x w j n s.h∧
   ((j=0∧w=v)∨(0 <j∧EX (m.get ((j:Int)-1,2*n)) (m.get ((j:Int)-1,2*n+1))=some v))∧IG (12-j) j n v m=IG 12 0 n0 v0 m0) ⟨n0,v0,v0,m0,c0,x0,rfl,hn0,by simpa using hn1,hF0,.inl ⟨rfl,rfl⟩,rfl⟩ ?_
 rintro j ⟨se,sh⟩ hj ⟨n,v,w,m,c,x,he,b0,b1,hF,hv,hR⟩;simp only at he hF;subst he;have hn2:n≤4096:=by
  have:2^(12-j)≤2^12:=re (by decide) (by omega);have e:2^12=4096:=by decide
  omega
 rw[←hR];simp only[A8 132 0];rw[AE,AM,AE];refine bg h r q d y hr hq hn hl hF hj b0 hn2 hv _ ?_;intro e' H' f0 f5 f6 hF';simp only[];refine bf h r q d y hr hq hn f0 f5 f6 hF' _ ?_ ?_
 ·rintro rfl rfl e2 H2 hF2;exact⟨rfl,hF2.pre⟩
 ·intro hd e2 H2 g5 g6 g0 hF2;simp only[];have hjl:j <12:=by
   rcases om j 12 with h|h
   ·exact h
   ·exfalso;have:j=12:=by omega
    subst this;simp at b1;exact hd ⟨rfl,by omega⟩
  refine be h q g0 g5 g6 hF2 b0 hn2 hj _ ?_;intro H3 hF3;obtain⟨f,hf⟩:∃f,12-j=f+1:=⟨11-j,by omega⟩;have hf2:12-(j+1)=f:=by omega
  rw[hf]at b1 ⊢;rw[hf2];refine⟨hjl,n/2,(EX ((m.set ((j:Int),n) v).get ((j:Int),2*(n/2))) ((m.set ((j:Int),n) v).get ((j:Int),2*(n/2)+1))).getD 0,v,m.set ((j:Int),n) v,c,H2.length,rfl,by omega,?_,hF3,.inr ⟨by omega,?_⟩,?_⟩
  ·rw[Nat.pow_succ]at b1;omega
  ·have ej:((j+1:Nat):Int)-1=j:=by omega
   rw[ej];refine LM ?_;have h0:n%2=0∨n%2=1:=by omega
   rcases h0 with h0|h0
   ·exact .inl (by rw[HM.get_set,show 2*(n/2)=n by omega];simp)
   ·exact .inr (by rw[HM.get_set,show 2*(n/2)+1=n by omega];simp)
  ·rfl
theorem jc (h:List Row) (r q:Nat) (d:D) (y:Row) (hr:h[r]?=some (.cells [d,.mref q])) (m:HM) (hq:h[q]?=some m.row) (hn:r≠q) (hl:∀row∈h,Row.low h.length row=true)
  (k v:Int) (h0:0≤k) (h1:k <4096):FX 132 [.ref r 0,.v (.int .i64 k),.v (IF (some v))] h [] (h.set q (IG 12 0 k v m).row):=by
 refine Ak (D4 132) rfl (by simp) ?_ (by simp) ?_
 ·intro row hrow;rw[qB];rcases pk hrow with hr|rfl
  ·exact hl row hr
  ·rfl
 have hF:PFm h q m h.length (h.length+1) v 0 k (h++[.cells [.v (.int .u64 v),.v (.bool true)],.cells [.v (.int .i64 0),.v (.int .i64 k)]]):=by
  refine⟨?_,by simp,by simp,by omega,by omega,by omega,?_⟩
  ·rw[qp (oN _),o6 (oN _)];obtain⟨g1,g2⟩:=oM.1 hq;rw[←g2,sU]
  ·simp[Row.low,D.lts,D.lt]
 have hL:=kU h r q d _ hr hq hn hl k v m _ _ _ h0 h1 hF;simp only[Ai 132,AE,AF,AM,AA 132 0,AQ];simp[IF];simp only[AA 132 1];simp[AO];refine Ad _ ?_ hL;rintro e s ⟨rfl,hs⟩;simp[AW 132];exact⟨s.h.drop h.length,by rw[←hs,pQ]⟩
end
section
structure KM where
 E:List (Int×List Int)
 st:List Nat
 ck:Nat
def Gg (x:Int×List Int):V×V:=(.int .i64 x.1,AH .u8 x.2)
def KM.row (m:KM):Row:= .map (m.E.map Gg) m.st m.ck
def KM.set (m:KM) (k:Int) (v:List Int):KM:=
 match m.E.findIdx? λx=>x.1==k with
 |none=>⟨m.E++[(k,v)],m.st++[m.ck],m.ck+1⟩
 |some i=>⟨m.E.set i (k,v),m.st,m.ck⟩
theorem Kh (a:Int):∀E:List (Int×List Int),Cv false [0] (.int .i64 a) (E.map Gg)=some (E.findIdx? λx=>x.1==a)
 |[]=>rfl
 |x::E=>by
  obtain⟨c,v⟩:=x;have hk:Bj false [0] (.int .i64 c)=true:=by simp[Bj,V.eqL,V.eq1,V.cells]
  simp only[oV,Gg,Cv,hk,if_true,V.cells,V.eqL,V.eq1,rP,Kh a E,qE];have e:(c==a)=(a==c):=pt.2 (by simp only[beq_iff_eq];exact eq_comm);rw[e];cases a==c<;>simp
theorem KM.row_new {m:KM} {k:Int} (v:List Int) (h:(m.E.findIdx? λx=>x.1==k)=none):(m.set k v).row= .map (m.E.map Gg++[Gg (k,v)]) (m.st++[m.ck]) (m.ck+1):=by
 simp[KM.set,h,KM.row]
variable {i:Nat}
theorem KM.row_old {m:KM} {k:Int} (v:List Int) (h:(m.E.findIdx? λx=>x.1==k)=some i):(m.set k v).row= .map ((m.E.map Gg).set i (Gg (k,v))) m.st m.ck:=by
 simp[KM.set,h,KM.row,List.map_set]
theorem WN (xs:List Int) (hb:xs.length≤2^45):PX 117 [AH .u8 xs] [AH .u8 xs]:=by
 refine BJ 117 ?_;have hroom:AU xs.length 1=true:=by simp[AU];omega
 cases xs with
 |nil=>simp[Ai 117,awp,AA 117 0,AA 117 1,AA 117 2,AA 117 3,AW 117,AX,AH,AU]
 |cons x xs=>simp[Ai 117,awp,AA 117 0,AA 117 1,AA 117 2,AA 117 3,AW 117,AX,AH]at hroom ⊢;simp[hroom]
theorem nI (h:List Row):FX 50 [] h [.ref (h.length+2) 0] (h++[KM.row ⟨[],[],0⟩,HM.row ⟨[],[],0⟩,.cells [.mref h.length,.mref (h.length+1)]]):=by
 refine Dh 50 ?_;simp[Ai 50,awp,AA 50 0,AA 50 1,AW 50,AQ,AO,KM.row,HM.row]
def Eo (k:Int) (bs:List Int):Int:=if 0≤k∧k≤4095 then (if bs.length>65536 then 4 else 0) else 5
theorem nH (h:List Row) (t a q:Nat) (K:KM) (m:HM) (ht:h[t]?=some (.cells [.mref a,.mref q])) (ha:h[a]?=some K.row) (hq:h[q]?=some m.row) (n1:t≠a) (n2:t≠q) (n3:a≠q)
  (hl:∀row∈h,Row.low h.length row=true) (k:Int) (bs:List Int) (hb:∀x∈bs,0≤x∧x <256) (hbl:bs.length≤2^39):
  FX 52 [.ref t 0,.v (.int .i64 k),.v (AH .u8 bs)] h [.v (.int .i64 (Eo k bs))] (if Eo k bs=0 then (h.set a (K.set k bs).row).set q (IG 12 0 k (FC k bs) m).row else h):=by
 refine Dh 52 ?_;have p1:=(XV k).fsp;simp at p1;by_cases hk:0≤k∧k≤4095
 ·have e1:(decide (0≤k)&&decide (k≤4095))=true:=by simpa using hk
  rw[e1]at p1;by_cases hbb:65536 <bs.length
  ·have hE:Eo k bs=4:=by simp[Eo,hk,hbb]
   have hbb':65536 <(bs.length:Int):=by omega
   rw[hE,if_neg (by decide)];simp only[Zw,Ai 52,AA 52 0,AA 52 1,AQ];simp[AH];refine⟨_,_,p1 _,?_⟩;simp[AA 52 3,hbb',AB,AA 52 4,AW 52]
  ·have hE:Eo k bs=0:=by simp[Eo,hk];omega
   have hbb':¬65536 <(bs.length:Int):=by omega
   have p2:=WN bs (by omega);have p3:=(jb k bs hb hbl).fsp;simp[AH]at p2 p3;have hmf:=Kh k K.E;have ha':h[a]?=some (.map (K.E.map Gg) K.st K.ck):=ha;rw[hE,if_pos rfl];obtain⟨HH,hHH⟩:∃HH,(h.set a (K.set k bs).row).set q (IG 12 0 k (FC k bs) m).row=HH:=⟨_,rfl⟩;rw[hHH];simp only[Zw,Ai 52,AA 52 0,AA 52 1,AQ];simp[AH];refine⟨_,_,p1 _,?_⟩;simp[AA 52 3,hbb',AD];simp only[AS,AA 52 5];simp[ht];refine⟨_,_,⟨rfl,rfl⟩,_,p2,?_⟩;simp[ha',hmf,Bj,V.eqL,V.eq1];have fin:∀row,row=(K.set k bs).row→Bz Tryz.prog Ah (oG 52 6) (λs'=>Bz Tryz.prog Ah (oG 52 7) (λs'=>awp Tryz.prog Ah .ret (λe s=>(match e with| .exit _=>False|_=>True)∧DG s (gR 52)=some [.v (.int .i64 0)]∧s.h=HH) ⟨[(6,AG s'.e 6)],s'.h⟩) ⟨[],s'.h⟩)
     ⟨[(0,.ref t 0),(1,.v (.int .i64 k)),(2,.v (.list (bs.map (V.int .u8))))],h.set a row⟩:=by
    rintro row rfl;have hl2:∀row∈h.set a (K.set k bs).row,Row.low (h.set a (K.set k bs).row).length row=true:=by
     intro row hrow;rw[qB];rcases pk hrow with hr|rfl
     ·exact hl row hr
     ·rfl
    have p4:=jc (h.set a (K.set k bs).row) t q (.mref a) .dead (by rw[ot (Ne.symm n1)];exact ht) m (by rw[ot n3];exact hq) n2 hl2 k (FC k bs) hk.1 (by omega);simp only[AA 52 6];simp;refine⟨_,_,p3 _,?_⟩;simp[AO];simp[IF]at p4;refine⟨_,_,p4,?_⟩;simp[AA 52 7,AB,AW 52,hHH]
   cases hi:K.E.findIdx? (λx=>x.fst==k)with
   |none=>
    simp;exact fin _ (KM.row_new bs hi).symm
   |some i=>
    simp;exact fin _ (KM.row_old bs hi).symm
 ·have hE:Eo k bs=5:=by simp[Eo,hk]
  have e1:(decide (0≤k)&&decide (k≤4095))=false:=by simpa using hk
  rw[e1]at p1;rw[hE,if_neg (by decide)];simp only[Zw,Ai 52,AA 52 0,AA 52 1,AQ];simp[AH];refine⟨_,_,p1 _,?_⟩;simp[AB,AA 52 2,AW 52]
end
def K4 (ps:List (Int×List Int)) (k:Int):Nat:=ps.findIdx λp=> !decide (p.1 <k)
def I1 (ps:List (Int×List Int)) (k:Int) (v:List Int):List (Int×List Int):=ps.take (K4 ps k)++(k,v)::ps.drop (K4 ps k)
theorem nD (h:List Row) (r:Nat) (ps:List (Int×List Int)) (hr:h[r]?=some (G0 ps)) (hl:ps.length≤2^30) (k:Int) (v:List Int) (hv:v.length≤2^39) (hab:∀p∈ps,p.1≠k):
  FX 56 [.ref r 0,.v (.int .i64 k),.v (AH .u8 v)] h [.v (.int .i64 (Eo k v))] (if Eo k v=0 then h.set r (G0 (I1 ps k v)) else h):=by
 refine Dh 56 ?_;by_cases k0:k <0
 ·have hE:Eo k v=5:=by simp[Eo];omega
  rw[hE,if_neg (by decide)];simp[Ai 56,AE,AF,AK,AA 56 0,AA 56 1,AA 56 2,AQ,k0,AH,AB,AW 56]
 by_cases k1:4095 <k
 ·have hE:Eo k v=5:=by simp[Eo];omega
  rw[hE,if_neg (by decide)];simp[Ai 56,AE,AF,AK,AA 56 0,AA 56 1,AA 56 2,AQ,k0,k1,AH,AB,AW 56]
 by_cases k2:65536 <v.length
 ·have hE:Eo k v=4:=by simp[Eo,k2];omega
  have k2':65536 <(v.length:Int):=by omega
  rw[hE,if_neg (by decide)];simp[Ai 56,AE,AF,AK,AA 56 0,AA 56 1,AA 56 3,AA 56 4,AQ,k0,k1,k2',AH,AD,AB,AW 56]
 have hE:Eo k v=0:=by simp[Eo];omega
 have k2':¬65536 <(v.length:Int):=by omega
 rw[hE,if_pos rfl];have hT:K4 ps k≤ps.length:=List.findIdx_le_length;have hins:I1 ps k v=ps.take (K4 ps k)++(k,v)::ps.drop (K4 ps k):=rfl;have room:∀(m s:Nat),m≤2^41→s≤32→AU m s=true:=by
  intro m s hm hs;have:m*s≤2^41*32:=Nat.mul_le_mul hm hs;simp[AU];omega
 have hw:∀i:Nat,i≤ps.length→IntKind.i64.wrap ((i:Int)+1)=i+1:=λi hi=>AL;obtain⟨HH,hHH⟩:∃HH,h.set r (G0 (I1 ps k v))=HH:=⟨_,rfl⟩;rw[hHH];simp only[Zw,Ai 56,AA 56 0,AA 56 1,AA 56 3,AA 56 5,AA 56 6,AQ];simp[k0,k1,k2',AH,AD];refine AN (K4 ps k) (λi=>⟨[(0,.ref r 0),(1,.v (.int .i64 k)),(2,.v (AH .u8 v)),(7,.own 200 2 ((ps.take i).map KP)),(8,.v (.int .i64 i))],h⟩) (by simp[AH]) ?_;intro i hi;simp only[Zw,A8 56 0,AA 56 7];simp[hr,G0];by_cases hlt:i <K4 ps k
 ·have hil:i <ps.length:=by omega
  obtain⟨p,hp⟩:∃p,ps[i]?=some p:=⟨_,oI hil⟩;have hpe:ps[i]=p:=(oM.1 hp).2;have hnot:=List.not_of_lt_findIdx hlt;have hpk:p.1 <k:=by rw[←hpe];simpa using hnot
  have htk:ps.take (i+1)=ps.take i++[p]:=by rw[pX hil,hpe]
  have hil':(i:Int) <ps.length:=by omega
  have hpk':ps[i].1 <k:=by rw[hpe];exact hpk
  simp[hil,KP,hpk',AD,AA 56 8,hr,G0];rw[room _ _ (by simp;omega) (by omega)];simp[AA 56 9,hw i (by omega),hlt];rw[pX (by simpa using hil)];simp[KP]
 ·have hi2:i=K4 ps k:=by omega
  have hstop:∀p,ps[i]?=some p→¬p.1 <k:=by
   intro p hp;have hil:=(oM.1 hp).1;have e:ps.findIdx (λp=> !decide (p.1 <k))=i:=hi2.symm;have:=List.findIdx_getElem (p:=λp:Int×List Int=> !decide (p.1 <k)) (xs:=ps) (w:=by rw[e];exact hil);simp only[e]at this;rw[(oM.1 hp).2]at this;simpa using this
  have hmapd:ps.map KP=(ps.take i).map KP++(ps.drop i).map KP:=by rw[←oh,pQ]
  have hres:(I1 ps k v).map KP=(ps.take i).map KP++(V.agg [.int .i64 k,AH .u8 v]::(ps.drop i).map KP):=by rw[hins,←hi2];simp[KP]
  have hho:BM 2 ((ps.map KP).drop i)=true:=by
   cases hd:(ps.map KP).drop i with
   |nil=>rfl
   |cons x xs=>
    have:x∈ps.map KP:=qi (by rw[hd];simp);obtain⟨p,_,rfl⟩:=oP.1 this;rfl
  have hho0:BM 2 (ps.map KP)=true:=by cases ps<;>rfl
  have tkl:(ps.map KP).take ps.length=ps.map KP:=o6 (by simp);have rm1:AU v.length 1=true:=by simp[AU];omega
  have rm2:AU (min i ps.length+1) 32=true:=room _ _ (by omega) (by omega);have rm3:AU (min i ps.length+1+(ps.length-i)) 32=true:=room _ _ (by omega) (by omega);have hile:i≤ps.length:=by omega
  have rm4:AU (i+1+(ps.length-i)) 32=true:=room _ _ (by omega) (by omega);have hend:h.set r (.cells [.own 200 2 ((ps.map KP).take i++V.agg [.int .i64 k,.list (v.map (V.int .u8))]::(ps.map KP).drop i)])=HH:=by
   rw[←hHH,G0,hres,o8,qQ];rfl
  by_cases hil:i <ps.length
  ·obtain⟨p,hp⟩:∃p,ps[i]?=some p:=⟨_,oI hil⟩;have hpe:ps[i]=p:=(oM.1 hp).2;have s1:¬ps[i].1 <k:=by rw[hpe];exact hstop p hp
   have s2:¬ps[i].1=k:=by rw[hpe];exact hab p (oK hp)
   simp[hil,KP,s1,AJ,AA 56 10,AA 56 11,AH,rm1,AO,rm2];simp[AA 56 12,hr,G0,hil,KP,s2];simp[AA 56 14,hr,G0,hho,hho0,hile,tkl,rm4,AA 56 15,AB,AW 56,hend]
  ·simp[hil,AJ,AA 56 10,AA 56 11,AH,rm1,AO,rm2];simp[AA 56 12,hr,G0,hil];simp[AA 56 14,hr,G0,hho,hho0,hile,tkl,rm4,AA 56 15,AB,AW 56,hend];omega
end Go.Va
