/- Laws that ExtractBytes leans on, part 21. No condition of its own. -/
import Derived.Test.YtopldfpkgbkomaaGreatDoorL17
set_option linter.all false
set_option maxRecDepth 100000
set_option maxHeartbeats 4000000
noncomputable section
namespace Go.Va
open Go.Proofs
section
def JV (ds:List Dat):Nat→Int
 |0=> -1
 |j+1=>match ds[j]? with|some y=>64*y.cl+y.ix|none=> -1
def pD (n:Nat) (ds:List Dat) (k:Nat):Bool:=match ds[k]? with|some x=>HC n x&&decide (JV ds k <64*x.cl+x.ix)|none=>true
def pL {α:Type} (ok:α→Bool) (f:α→α→Bool) (l:List α) (k:Nat):Bool:=match l[k]? with|some x=>ok x&&Hd f l k x|none=>true
theorem XJ (n lo hi:Int):D5 n lo hi=true↔lo≤n∧n≤hi:=by simp[D5]
variable {n:Nat}
theorem OG {x:Dat} (h:HC n x=true):0≤x.cl∧x.cl≤n-1∧0≤x.ix∧x.ix≤63:=by
 simp only[HC,qI,XJ]at h;omega
theorem TJ (n:Nat) (ds:List Dat):(ds.all (HC n)&&Co HD ds)=decide (∀k <ds.length,pD n ds k=true):=by
 refine LN (pD n ds) λk x hx hprev=>?_;simp only[pD,hx];cases hok:HC n x with
 |false=>simp
 |true=>
  have b:=OG hok;simp only[rC];cases k with
  |zero=>
   have: -1 <64*x.cl+x.ix:=by omega
   simp[JV,this]
  |succ j=>
   cases hy:ds[j]? with
   |none=>
    have: -1 <64*x.cl+x.ix:=by omega
    simp[JV,hy,this]
   |some y=>
    have h1:=hprev j (by omega);simp only[pD,hy,qI]at h1;have b2:=OG h1.1;simp only[JV,hy,HD];rw[sL];simp;omega
theorem PW {α:Type} (ok:α→Bool) (f:α→α→Bool) (l:List α):(l.all ok&&Co f l)=decide (∀k <l.length,pL ok f l k=true):=by
 refine LN (pL ok f l) λk x hx _=>?_;simp only[pL,hx];rfl
theorem Xv {α:Type} (ok:α→Bool) (l:List α):l.all ok=decide (∀k <l.length,∀x,l[k]?=some x→ok x=true):=by
 rw[sL,qV,decide_eq_true_eq]
 constructor
 ·exact λh k _ x hx=>h x (qJ hx)
 ·intro h x hx;obtain⟨k,hk⟩:=tJ hx;exact h k (qK.1 hk).1 x hk
theorem ez (r:Rgt) (n:Nat) (hn:n≤2^30) (hl:r.dates.length≤2^30) (J0:List Row) (Q:AExit→St→Prop)
  (hgo:(∀k <r.dates.length,pD n r.dates k=true)→∀e J,AF e 1= .ref 0 0→AF e 3= .v (.int .i64 n)→Q (.exit 0) ⟨e,r.row::J⟩)
  (hbad:¬(∀k <r.dates.length,pD n r.dates k=true)→∀s,AF s.e 2= .v (.bool false)→Q .ret s):
  awp Tryz.prog An (.loop (lG 49 0)) Q ⟨[(1,.ref 0 0),(3,.v (.int .i64 n)),(4,.v (.int .i64 (-1))),(5,.v (.int .i64 0))],r.row::J0⟩:=by
 refine Al r.dates.length (λk s=>s.e=[(1,.ref 0 0),(3,.v (.int .i64 n)),(4,.v (.int .i64 (JV r.dates k))),(5,.v (.int .i64 k))]∧(∃J,s.h=r.row::J)∧∀j <k,pD n r.dates j=true) ⟨rfl,⟨J0,rfl⟩,by simp⟩ ?_;rintro k ⟨se,sh⟩ hk ⟨he,⟨J,hh⟩,hI⟩;simp only at he hh;subst he hh;simp only[Zw,BA 49 0,AA 49 6];simp[Rgt.row];by_cases hlt:k <r.dates.length
 ·obtain⟨x,hx⟩:∃x,r.dates[k]?=some x:=⟨_,qH hlt⟩;have hw:=Bo k;have hpk:pD n r.dates k=(HC n x&&decide (JV r.dates k <64*x.cl+x.ix)):=by simp only[pD,hx]
  have hnx:JV r.dates (k+1)=64*x.cl+x.ix:=by simp only[JV,hx]
  rw[if_pos (by omega),AB];simp only[AA 49 8];simp[hx,Dat.V,AS];refine cu x n (JV r.dates k) (J.length+1) _ (by simp) hn _ _ _ ?_;intro e' f1 f3 f5 f6 f98;rw[←hpk]at f98;simp[f98];cases hp:pD n r.dates k with
  |false=>
   have hnot:¬ ∀k <r.dates.length,pD n r.dates k=true:=λh=>by rw[h k hlt]at hp;cases hp
   simp[AD,AA 49 10];exact hbad hnot _ rfl
  |true=>
   rw[hp]at hpk;have hdo:HC n x=true:=by
    have:=hpk.symm;simp only[qI]at this;exact this.1
   have b:=OG hdo;have w1:IntKind.i64.wrap (64*x.cl)=64*x.cl:=AQ;have w2:IntKind.i64.wrap (64*x.cl+x.ix)=64*x.cl+x.ix:=AQ;simp[AB,AA 49 11,f1,f3,f5,f6,w1,w2,AA 49 7,hw,hlt,hnx];intro j hj;rcases qi j k with h|h
   ·exact hI j h
   ·have:j=k:=by omega
    subst this;exact hp
 ·have:k=r.dates.length:=by omega
  subst this;rw[if_neg (by omega),AJ];simp;exact hgo hI _ J rfl rfl
theorem ey (r:Rgt) (n:Nat) (hn:n≤2^30) (hl:r.bad.length≤2^30) (J:List Row) (Q:AExit→St→Prop)
  (hgo:(∀k <r.bad.length,pL (λi=>D5 i 0 (n-1)) (λa b=>decide (a <b)) r.bad k=true)→∀e,AF e 1= .ref 0 0→Q (.exit 2) ⟨e,r.row::J⟩)
  (hbad:¬(∀k <r.bad.length,pL (λi=>D5 i 0 (n-1)) (λa b=>decide (a <b)) r.bad k=true)→∀s,AF s.e 2= .v (.bool false)→Q .ret s):
  awp Tryz.prog An (.loop (lG 49 1)) Q ⟨[(1,.ref 0 0),(3,.v (.int .i64 n)),(7,.v (.int .i64 0))],r.row::J⟩:=by
 refine Ao r.bad.length (λk=>⟨[(1,.ref 0 0),(3,.v (.int .i64 n)),(7,.v (.int .i64 k))],r.row::J⟩) (λk=>∀j <k,pL (λi=>D5 i 0 (n-1)) (λa b=>decide (a <b)) r.bad j=true) rfl (by simp) ?_;intro k hk hI;simp only[Zw,BA 49 1,AA 49 13];simp[Rgt.row,AH];by_cases hlt:k <r.bad.length
 ·obtain⟨x,hx⟩:∃x,r.bad[k]?=some x:=⟨_,qH hlt⟩;have hw:=Bo k;have hpk:pL (λi=>D5 i 0 (n-1)) (λa b=>decide (a <b)) r.bad k=(D5 x 0 (n-1)&&Hd (λa b=>decide (a <b)) r.bad k x):=by simp only[pL,hx]
  rw[if_pos (by omega),AB];simp only[AW]
  try simp
  refine Za r n k x (r.row::J) rfl hx hn (by omega) _ _ ?_;intro e' f1 f3 f7 f140;rw[←hpk]at f140;simp[f140];cases hp:pL (λi=>D5 i 0 (n-1)) (λa b=>decide (a <b)) r.bad k with
  |false=>
   have hnot:¬ ∀k <r.bad.length,pL (λi=>D5 i 0 (n-1)) (λa b=>decide (a <b)) r.bad k=true:=λh=>by rw[h k hlt]at hp;cases hp
   simp[AD,AA 49 16];exact hbad hnot _ rfl
  |true=>
   simp[AB,f1,f3,f7,AA 49 14,hw,hlt,Rgt.row,AH];intro j hj;rcases qi j k with h|h
   ·exact hI j h
   ·have:j=k:=by omega
    subst this;exact hp
 ·have:k=r.bad.length:=by omega
  subst this;rw[if_neg (by omega),AJ];simp;exact hgo hI _ rfl
theorem ew (r:Rgt) (ho:∀o∈r.owners,o.ok) (hl:r.owners.length≤2^30) (J0:List Row) (Q:AExit→St→Prop)
  (hgo:(∀k <r.owners.length,pL FW (λa b=>decide (a.party <b.party)) r.owners k=true)→∀e J,AF e 1= .ref 0 0→Q (.exit 4) ⟨e,r.row::J⟩)
  (hbad:¬(∀k <r.owners.length,pL FW (λa b=>decide (a.party <b.party)) r.owners k=true)→∀s,AF s.e 2= .v (.bool false)→Q .ret s):
  awp Tryz.prog An (.loop (lG 49 2)) Q ⟨[(1,.ref 0 0),(8,.v (.int .i64 0))],r.row::J0⟩:=by
 refine Al r.owners.length (λk s=>s.e=[(1,.ref 0 0),(8,.v (.int .i64 k))]∧(∃J,s.h=r.row::J)∧∀j <k,pL FW (λa b=>decide (a.party <b.party)) r.owners j=true) ⟨rfl,⟨J0,rfl⟩,by simp⟩ ?_;rintro k ⟨se,sh⟩ hk ⟨he,⟨J,hh⟩,hI⟩;simp only at he hh;subst he hh;simp only[Zw,BA 49 2,AA 49 18];simp[Rgt.row];by_cases hlt:k <r.owners.length
 ·obtain⟨x,hx⟩:∃x,r.owners[k]?=some x:=⟨_,qH hlt⟩;have hw:=Bo k;have hpk:pL FW (λa b=>decide (a.party <b.party)) r.owners k=(FW x&&Hd (λa b=>decide (a.party <b.party)) r.owners k x):=by simp only[pL,hx]
  rw[if_pos (by omega),AB];simp only[AA 49 20];simp[hx,Own.V,AS,AW];refine ZZ r k x (ho x (qJ hx)) (J.length+1) _ (by rfl) hx (by omega) (by simp) _ ?_;intro e' f1 f8 f193;rw[←hpk]at f193;simp[f193];cases hp:pL FW (λa b=>decide (a.party <b.party)) r.owners k with
  |false=>
   have hnot:¬ ∀k <r.owners.length,pL FW (λa b=>decide (a.party <b.party)) r.owners k=true:=λh=>by rw[h k hlt]at hp;cases hp
   simp[AD,AA 49 22];exact hbad hnot _ rfl
  |true=>
   simp[AB,f1,f8,AA 49 19,hw,hlt];intro j hj;rcases qi j k with h|h
   ·exact hI j h
   ·have:j=k:=by omega
    subst this;exact hp
 ·have:k=r.owners.length:=by omega
  subst this;rw[if_neg (by omega),AJ];simp;exact hgo hI _ J rfl
theorem eu (r:Rgt) (hl:r.lics.length≤2^30) (J0:List Row) (Q:AExit→St→Prop)
  (hgo:r.lics.all G9=true→∀s,Q (.exit 6) s)
  (hbad:r.lics.all G9=false→∀s,AF s.e 2= .v (.bool false)→Q .ret s):
  awp Tryz.prog An (.loop (lG 49 3)) Q ⟨[(1,.ref 0 0),(10,.v (.int .i64 0))],r.row::J0⟩:=by
 refine Al r.lics.length (λk s=>s.e=[(1,.ref 0 0),(10,.v (.int .i64 k))]∧(∃J,s.h=r.row::J)∧∀j <k,∀x,r.lics[j]?=some x→G9 x=true) ⟨rfl,⟨J0,rfl⟩,by simp⟩ ?_;rintro k ⟨se,sh⟩ hk ⟨he,⟨J,hh⟩,hI⟩;simp only at he hh;subst he hh;simp only[Zw,BA 49 3,AA 49 24];simp[Rgt.row];by_cases hlt:k <r.lics.length
 ·obtain⟨x,hx⟩:∃x,r.lics[k]?=some x:=⟨_,qH hlt⟩;have hw:=Bo k;rw[if_pos (by omega),AB];simp only[AA 49 26];simp[hx,Lic.V,AS];refine ZY x (J.length+1) _ (by simp) _ _ ?_;intro e' f1 f10 f228;simp[f228];cases hp:G9 x with
  |false=>
   have hnot:r.lics.all G9=false:=by
    rw[List.all_eq_false];exact⟨x,qJ hx,by rw[hp];decide⟩
   simp[AD,AA 49 28];exact hbad hnot _ rfl
  |true=>
   simp[AB,f1,f10,AA 49 25,hw,hlt];intro j hj y hy;rcases qi j k with h|h
   ·exact hI j h y hy
   ·have:j=k:=by omega
    subst this;rw[hx]at hy;cases hy;exact hp
 ·have:k=r.lics.length:=by omega
  subst this;rw[if_neg (by omega),AJ];simp;refine hgo ?_ _;rw[Xv,decide_eq_true_eq];exact hI
end
def bN:AC:=(.seq (.reg (oG 49 4) [1,3,4]) (.seq (.seq (.reg (oG 49 5) [1,3,4,5]) (.block 0 (.loop (lG 49 0)))) (.seq (.seq (.reg (oG 49 12) [1,3,7]) (.block 2 (.loop (lG 49 1)))) (.seq (.seq (.reg (oG 49 17) [1,8]) (.block 4 (.loop (lG 49 2)))) (.seq (.seq (.reg (oG 49 23) [1,10]) (.block 6 (.loop (lG 49 3)))) (.seq (.reg (oG 49 29) [2]) .ret))))))
theorem bQ:(gA 49)=(.seq (.reg (oG 49 0) [1]) (.seq (.reg (oG 49 1) [1,3]) (.seq (.seq (.reg (oG 49 2) [1,3,48]) (.cond (.t 48 false) (.seq (.reg (oG 49 3) [2]) .ret) .skip)) bN))):=(At 49 :)
theorem oS (r:Rgt) (hr:r.ok):PX 49 [r.V] [.bool (Ag r)]:=by
 refine BU 49 ?_;obtain⟨R,hR⟩:∃R,Ag r=R:=⟨_,rfl⟩;rw[hR];unfold Ag at hR;have hlc:=hr.lc;have p1:=(Kr r.file 0 4095).fsp;have p2:=(Kr r.state 0 4).fsp;have p3:=(Kr r.force 0 4).fsp;have p4:=(Zm r.claims hr.claims (by omega)).fsp;have hD:=TJ r.claims.length r.dates;have hB:=PW (λi=>D5 i 0 (r.claims.length-1)) (λa b=>decide (a <b)) r.bad;have hO:=PW FW (λa b=>decide (a.party <b.party)) r.owners;rw[hD,hB,hO]at hR;simp at p1 p2 p3 p4;rw[bQ];simp only[AE,AG,AL,AA 49 0,AA 49 1,AV];simp[Rgt.V,Rgt.cs];generalize D5 r.file 0 4095=A1 at*;generalize D5 r.state 0 4=A2 at*;generalize D5 r.force 0 4=A3 at*;generalize CV r.claims=A4 at*;simp only[AA 49 2];simp;refine⟨_,_,p1 _,?_⟩;cases A1 with
 |false=>simp at hR;simp[AD,AA 49 3,AX 49,hR]
 |true=>
 simp;refine⟨_,_,p2 _,?_⟩;cases A2 with
 |false=>simp at hR;simp[AD,AA 49 3,AX 49,hR]
 |true=>
 simp;refine⟨_,_,p3 _,?_⟩;cases A3 with
 |false=>simp at hR;simp[AD,AA 49 3,AX 49,hR]
 |true=>
 simp;refine⟨_,_,p4 _,?_⟩;by_cases h4:A4=0
 case neg=>
  have hf:R=false:=by rw[←hR];simp[h4]
  simp[h4,AD,AA 49 3,AX 49,hf]
 subst h4;by_cases h5:4096 <r.dates.length
 ·have h5':4096 <(r.dates.length:Int):=by omega
  have hf:R=false:=by rw[←hR];simp[show ¬r.dates.length≤4096 by omega]
  simp[h5',AD,AA 49 3,AX 49,hf]
 have h5':¬4096 <(r.dates.length:Int):=by omega
 by_cases h6:4096 <r.lics.length
 ·have h6':4096 <(r.lics.length:Int):=by omega
  have hf:R=false:=by rw[←hR];simp[show ¬r.lics.length≤4096 by omega]
  simp[h5',h6',AD,AA 49 3,AX 49,hf]
 have h6':¬4096 <(r.lics.length:Int):=by omega
 have e5:decide (r.dates.length≤4096)=true:=by simpa using h5
 have e6:decide (r.lics.length≤4096)=true:=by simpa using h6
 rw[e5,e6]at hR;simp only[beq_self_eq_true,uN,rC]at hR;simp[h5',h6',AB];have fin:∀e,AF e 1= .ref 0 0→AF e 3= .v (.int .i64 r.claims.length)→awp Tryz.prog An bN (λe s=>(match e with| .exit _=>False|_=>True)∧Bw s (gR 49)=some [.bool R]) ⟨e,[r.row]⟩:=by
  intro e f1 f3;unfold bN;simp only[AE,AG,AU,AA 49 4,AA 49 5];simp[f1,f3];refine ez r r.claims.length hlc hr.ld [] _ ?_ ?_
  ·intro hd e J g1 g3;rw[decide_eq_true hd,rC]at hR;simp[AA 49 12,g1,g3];refine ey r r.claims.length hlc hr.lb J _ ?_ ?_
   ·intro hb e g1;rw[decide_eq_true hb,rC]at hR;simp[AA 49 17,g1];refine ew r hr.owners hr.lo J _ ?_ ?_
    ·intro ho e J2 g1;rw[decide_eq_true ho,rC]at hR;simp[AA 49 23,g1];refine eu r hr.ll J2 _ ?_ ?_
     ·intro hl s;rw[hl]at hR;simp[AA 49 29,AD,AX 49,←hR]
     ·intro hl s hs;rw[hl]at hR;simp[AX 49,hs,←hR]
    ·intro ho s hs;rw[decide_eq_false ho,tE]at hR;simp[AX 49,hs,←hR]
   ·intro hb s hs;rw[decide_eq_false hb]at hR;simp at hR;simp[AX 49,hs,←hR]
  ·intro hd s hs;rw[decide_eq_false hd]at hR;simp at hR;simp[AX 49,hs,←hR]
 exact fin _ rfl rfl
end Go.Va
