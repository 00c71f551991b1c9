/- Laws that ExtractAnswers leans on, part 17. No condition of its own. -/
import Derived.Test.YtopldfpkgbkomaaGreatDoorL12
import Derived.Test.YtopldfpkgbkomaaGreatDoorL14
import Derived.Test.YtopldfpkgbkomaaGreatDoorL15
set_option linter.all false
set_option maxRecDepth 100000
set_option maxHeartbeats 4000000
noncomputable section
namespace Go.Va
open Go.Proofs
section
def Iy (ds:List Dat):Nat→Int
 |0=> -1
 |j+1=>match ds[j]? with|some y=>64*y.cl+y.ix|none=> -1
def pD (n:Nat) (ds:List Dat) (k:Nat):Bool:=match ds[k]? with|some x=>Ga n x&&decide (Iy ds k <64*x.cl+x.ix)|none=>true
def pL {α:Type} (ok:α→Bool) (f:α→α→Bool) (l:List α) (k:Nat):Bool:=match l[k]? with|some x=>ok x&&G1 f l k x|none=>true
theorem VK (n lo hi:Int):Dl n lo hi=true↔lo≤n∧n≤hi:=by simp[Dl]
variable {n:Nat}
theorem Na {x:Dat} (h:Ga n x=true):0≤x.cl∧x.cl≤n-1∧0≤x.ix∧x.ix≤63:=by
 simp only[Ga,oJ,VK]at h;omega
theorem Rd (n:Nat) (ds:List Dat):(ds.all (Ga n)&&CU Gb ds)=decide (∀k <ds.length,pD n ds k=true):=by
 refine Kx (pD n ds) λk x hx hprev=>?_;simp only[pD,hx];cases hok:Ga n x with
 |false=>simp
 |true=>
  have b:=Na hok;simp only[pB];cases k with
  |zero=>
   have: -1 <64*x.cl+x.ix:=by omega
   simp[Iy,this]
  |succ j=>
   cases hy:ds[j]? with
   |none=>
    have: -1 <64*x.cl+x.ix:=by omega
    simp[Iy,hy,this]
   |some y=>
    have h1:=hprev j (by omega);simp only[pD,hy,oJ]at h1;have b2:=Na h1.1;simp only[Iy,hy,Gb];rw[pt];simp;omega
theorem OS {α:Type} (ok:α→Bool) (f:α→α→Bool) (l:List α):(l.all ok&&CU f l)=decide (∀k <l.length,pL ok f l k=true):=by
 refine Kx (pL ok f l) λk x hx _=>?_;simp only[pL,hx];rfl
theorem Vo {α:Type} (ok:α→Bool) (l:List α):l.all ok=decide (∀k <l.length,∀x,l[k]?=some x→ok x=true):=by
 rw[pt,oY,decide_eq_true_eq]
 constructor
 ·exact λh k _ x hx=>h x (oK hx)
 ·intro h x hx;obtain⟨k,hk⟩:=rQ hx;exact h k (oM.1 hk).1 x hk
theorem bB (r:Rgt) (n:Nat) (hn:n≤2^30) (hl:r.dates.length≤2^30) (J0:List Row) (Q:AExit→St→Prop)
  (hgo:(∀k <r.dates.length,pD n r.dates k=true)→∀e J,AG e 1= .ref 0 0→AG e 3= .v (.int .i64 n)→Q (.exit 0) ⟨e,r.row::J⟩)
  (hbad:¬(∀k <r.dates.length,pD n r.dates k=true)→∀s,AG s.e 2= .v (.bool false)→Q .ret s):
  awp Tryz.prog Ah (.loop (lG 49 0)) Q ⟨[(1,.ref 0 0),(3,.v (.int .i64 n)),(4,.v (.int .i64 (-1))),(5,.v (.int .i64 0))],r.row::J0⟩:=by
 refine AY r.dates.length (λk s=>s.e=[(1,.ref 0 0),(3,.v (.int .i64 n)),(4,.v (.int .i64 (Iy r.dates k))),(5,.v (.int .i64 k))]∧(∃J,s.h=r.row::J)∧∀j <k,pD n r.dates j=true) ⟨rfl,⟨J0,rfl⟩,by simp⟩ ?_;rintro k ⟨se,sh⟩ hk ⟨he,⟨J,hh⟩,hI⟩;simp only at he hh;subst he hh;simp only[Zw,A8 49 0,AA 49 6];simp[Rgt.row];by_cases hlt:k <r.dates.length
 ·obtain⟨x,hx⟩:∃x,r.dates[k]?=some x:=⟨_,oI hlt⟩;have hw:=Bb k;have hpk:pD n r.dates k=(Ga n x&&decide (Iy r.dates k <64*x.cl+x.ix)):=by simp only[pD,hx]
  have hnx:Iy r.dates (k+1)=64*x.cl+x.ix:=by simp only[Iy,hx]
  rw[if_pos (by omega),AD];simp only[AA 49 8];simp[hx,Dat.V,AO];refine ZQ x n (Iy r.dates k) (J.length+1) _ (by simp) hn _ _ _ ?_;intro e' f1 f3 f5 f6 f98;rw[←hpk]at f98;simp[f98];cases hp:pD n r.dates k with
  |false=>
   have hnot:¬ ∀k <r.dates.length,pD n r.dates k=true:=λh=>by rw[h k hlt]at hp;cases hp
   simp[AB,AA 49 10];exact hbad hnot _ rfl
  |true=>
   rw[hp]at hpk;have hdo:Ga n x=true:=by
    have:=hpk.symm;simp only[oJ]at this;exact this.1
   have b:=Na hdo;have w1:IntKind.i64.wrap (64*x.cl)=64*x.cl:=AL;have w2:IntKind.i64.wrap (64*x.cl+x.ix)=64*x.cl+x.ix:=AL;simp[AD,AA 49 11,f1,f3,f5,f6,w1,w2,AA 49 7,hw,hlt,hnx];intro j hj;rcases om j k with h|h
   ·exact hI j h
   ·have:j=k:=by omega
    subst this;exact hp
 ·have:k=r.dates.length:=by omega
  subst this;rw[if_neg (by omega),AJ];simp;exact hgo hI _ J rfl rfl
theorem bA (r:Rgt) (n:Nat) (hn:n≤2^30) (hl:r.bad.length≤2^30) (J:List Row) (Q:AExit→St→Prop)
  (hgo:(∀k <r.bad.length,pL (λi=>Dl i 0 (n-1)) (λa b=>decide (a <b)) r.bad k=true)→∀e,AG e 1= .ref 0 0→Q (.exit 2) ⟨e,r.row::J⟩)
  (hbad:¬(∀k <r.bad.length,pL (λi=>Dl i 0 (n-1)) (λa b=>decide (a <b)) r.bad k=true)→∀s,AG s.e 2= .v (.bool false)→Q .ret s):
  awp Tryz.prog Ah (.loop (lG 49 1)) Q ⟨[(1,.ref 0 0),(3,.v (.int .i64 n)),(7,.v (.int .i64 0))],r.row::J⟩:=by
 refine Al r.bad.length (λk=>⟨[(1,.ref 0 0),(3,.v (.int .i64 n)),(7,.v (.int .i64 k))],r.row::J⟩) (λk=>∀j <k,pL (λi=>Dl i 0 (n-1)) (λa b=>decide (a <b)) r.bad j=true) rfl (by simp) ?_;intro k hk hI;simp only[Zw,A8 49 1,AA 49 13];simp[Rgt.row,AH];by_cases hlt:k <r.bad.length
 ·obtain⟨x,hx⟩:∃x,r.bad[k]?=some x:=⟨_,oI hlt⟩;have hw:=Bb k;have hpk:pL (λi=>Dl i 0 (n-1)) (λa b=>decide (a <b)) r.bad k=(Dl x 0 (n-1)&&G1 (λa b=>decide (a <b)) r.bad k x):=by simp only[pL,hx]
  rw[if_pos (by omega),AD];simp only[AS]
  try simp
  refine XJ r n k x (r.row::J) rfl hx hn (by omega) _ _ ?_;intro e' f1 f3 f7 f140;rw[←hpk]at f140;simp[f140];cases hp:pL (λi=>Dl i 0 (n-1)) (λa b=>decide (a <b)) r.bad k with
  |false=>
   have hnot:¬ ∀k <r.bad.length,pL (λi=>Dl i 0 (n-1)) (λa b=>decide (a <b)) r.bad k=true:=λh=>by rw[h k hlt]at hp;cases hp
   simp[AB,AA 49 16];exact hbad hnot _ rfl
  |true=>
   simp[AD,f1,f3,f7,AA 49 14,hw,hlt,Rgt.row,AH];intro j hj;rcases om j k with h|h
   ·exact hI j h
   ·have:j=k:=by omega
    subst this;exact hp
 ·have:k=r.bad.length:=by omega
  subst this;rw[if_neg (by omega),AJ];simp;exact hgo hI _ rfl
theorem az (r:Rgt) (ho:∀o∈r.owners,o.ok) (hl:r.owners.length≤2^30) (J0:List Row) (Q:AExit→St→Prop)
  (hgo:(∀k <r.owners.length,pL E8 (λa b=>decide (a.party <b.party)) r.owners k=true)→∀e J,AG e 1= .ref 0 0→Q (.exit 4) ⟨e,r.row::J⟩)
  (hbad:¬(∀k <r.owners.length,pL E8 (λa b=>decide (a.party <b.party)) r.owners k=true)→∀s,AG s.e 2= .v (.bool false)→Q .ret s):
  awp Tryz.prog Ah (.loop (lG 49 2)) Q ⟨[(1,.ref 0 0),(8,.v (.int .i64 0))],r.row::J0⟩:=by
 refine AY r.owners.length (λk s=>s.e=[(1,.ref 0 0),(8,.v (.int .i64 k))]∧(∃J,s.h=r.row::J)∧∀j <k,pL E8 (λa b=>decide (a.party <b.party)) r.owners j=true) ⟨rfl,⟨J0,rfl⟩,by simp⟩ ?_;rintro k ⟨se,sh⟩ hk ⟨he,⟨J,hh⟩,hI⟩;simp only at he hh;subst he hh;simp only[Zw,A8 49 2,AA 49 18];simp[Rgt.row];by_cases hlt:k <r.owners.length
 ·obtain⟨x,hx⟩:∃x,r.owners[k]?=some x:=⟨_,oI hlt⟩;have hw:=Bb k;have hpk:pL E8 (λa b=>decide (a.party <b.party)) r.owners k=(E8 x&&G1 (λa b=>decide (a.party <b.party)) r.owners k x):=by simp only[pL,hx]
  rw[if_pos (by omega),AD];simp only[AA 49 20];simp[hx,Own.V,AO,AS];refine XI r k x (ho x (oK hx)) (J.length+1) _ (by rfl) hx (by omega) (by simp) _ ?_;intro e' f1 f8 f193;rw[←hpk]at f193;simp[f193];cases hp:pL E8 (λa b=>decide (a.party <b.party)) r.owners k with
  |false=>
   have hnot:¬ ∀k <r.owners.length,pL E8 (λa b=>decide (a.party <b.party)) r.owners k=true:=λh=>by rw[h k hlt]at hp;cases hp
   simp[AB,AA 49 22];exact hbad hnot _ rfl
  |true=>
   simp[AD,f1,f8,AA 49 19,hw,hlt];intro j hj;rcases om j k with h|h
   ·exact hI j h
   ·have:j=k:=by omega
    subst this;exact hp
 ·have:k=r.owners.length:=by omega
  subst this;rw[if_neg (by omega),AJ];simp;exact hgo hI _ J rfl
theorem ay (r:Rgt) (hl:r.lics.length≤2^30) (J0:List Row) (Q:AExit→St→Prop)
  (hgo:r.lics.all GY=true→∀s,Q (.exit 6) s)
  (hbad:r.lics.all GY=false→∀s,AG s.e 2= .v (.bool false)→Q .ret s):
  awp Tryz.prog Ah (.loop (lG 49 3)) Q ⟨[(1,.ref 0 0),(10,.v (.int .i64 0))],r.row::J0⟩:=by
 refine AY r.lics.length (λk s=>s.e=[(1,.ref 0 0),(10,.v (.int .i64 k))]∧(∃J,s.h=r.row::J)∧∀j <k,∀x,r.lics[j]?=some x→GY x=true) ⟨rfl,⟨J0,rfl⟩,by simp⟩ ?_;rintro k ⟨se,sh⟩ hk ⟨he,⟨J,hh⟩,hI⟩;simp only at he hh;subst he hh;simp only[Zw,A8 49 3,AA 49 24];simp[Rgt.row];by_cases hlt:k <r.lics.length
 ·obtain⟨x,hx⟩:∃x,r.lics[k]?=some x:=⟨_,oI hlt⟩;have hw:=Bb k;rw[if_pos (by omega),AD];simp only[AA 49 26];simp[hx,Lic.V,AO];refine XH x (J.length+1) _ (by simp) _ _ ?_;intro e' f1 f10 f228;simp[f228];cases hp:GY x with
  |false=>
   have hnot:r.lics.all GY=false:=by
    rw[List.all_eq_false];exact⟨x,oK hx,by rw[hp];decide⟩
   simp[AB,AA 49 28];exact hbad hnot _ rfl
  |true=>
   simp[AD,f1,f10,AA 49 25,hw,hlt];intro j hj y hy;rcases om j k with h|h
   ·exact hI j h y hy
   ·have:j=k:=by omega
    subst this;rw[hx]at hy;cases hy;exact hp
 ·have:k=r.lics.length:=by omega
  subst this;rw[if_neg (by omega),AJ];simp;refine hgo ?_ _;rw[Vo,decide_eq_true_eq];exact hI
end
def Yg:AC:=(.seq (.reg (oG 49 4) [1,3,4]) (.seq (.seq (.reg (oG 49 5) [1,3,4,5]) (.block 0 (.loop (lG 49 0)))) (.seq (.seq (.reg (oG 49 12) [1,3,7]) (.block 2 (.loop (lG 49 1)))) (.seq (.seq (.reg (oG 49 17) [1,8]) (.block 4 (.loop (lG 49 2)))) (.seq (.seq (.reg (oG 49 23) [1,10]) (.block 6 (.loop (lG 49 3)))) (.seq (.reg (oG 49 29) [2]) .ret))))))
theorem Yh:(gA 49)=(.seq (.reg (oG 49 0) [1]) (.seq (.reg (oG 49 1) [1,3]) (.seq (.seq (.reg (oG 49 2) [1,3,48]) (.cond (.t 48 false) (.seq (.reg (oG 49 3) [2]) .ret) .skip)) Yg))):=(Ai 49 :)
theorem mA (r:Rgt) (hr:r.ok):PX 49 [r.V] [.bool (Aw r)]:=by
 refine BJ 49 ?_;obtain⟨R,hR⟩:∃R,Aw r=R:=⟨_,rfl⟩;rw[hR];unfold Aw at hR;have hlc:=hr.lc;have p1:=(KR r.file 0 4095).fsp;have p2:=(KR r.state 0 4).fsp;have p3:=(KR r.force 0 4).fsp;have p4:=(XX r.claims hr.claims (by omega)).fsp;have hD:=Rd r.claims.length r.dates;have hB:=OS (λi=>Dl i 0 (r.claims.length-1)) (λa b=>decide (a <b)) r.bad;have hO:=OS E8 (λa b=>decide (a.party <b.party)) r.owners;rw[hD,hB,hO]at hR;simp at p1 p2 p3 p4;rw[Yh];simp only[AE,AF,AK,AA 49 0,AA 49 1,AX];simp[Rgt.V,Rgt.cs];generalize Dl r.file 0 4095=A1 at*;generalize Dl r.state 0 4=A2 at*;generalize Dl r.force 0 4=A3 at*;generalize CD r.claims=A4 at*;simp only[AA 49 2];simp;refine⟨_,_,p1 _,?_⟩;cases A1 with
 |false=>simp at hR;simp[AB,AA 49 3,AW 49,hR]
 |true=>
 simp;refine⟨_,_,p2 _,?_⟩;cases A2 with
 |false=>simp at hR;simp[AB,AA 49 3,AW 49,hR]
 |true=>
 simp;refine⟨_,_,p3 _,?_⟩;cases A3 with
 |false=>simp at hR;simp[AB,AA 49 3,AW 49,hR]
 |true=>
 simp;refine⟨_,_,p4 _,?_⟩;by_cases h4:A4=0
 case neg=>
  have hf:R=false:=by rw[←hR];simp[h4]
  simp[h4,AB,AA 49 3,AW 49,hf]
 subst h4;by_cases h5:4096 <r.dates.length
 ·have h5':4096 <(r.dates.length:Int):=by omega
  have hf:R=false:=by rw[←hR];simp[show ¬r.dates.length≤4096 by omega]
  simp[h5',AB,AA 49 3,AW 49,hf]
 have h5':¬4096 <(r.dates.length:Int):=by omega
 by_cases h6:4096 <r.lics.length
 ·have h6':4096 <(r.lics.length:Int):=by omega
  have hf:R=false:=by rw[←hR];simp[show ¬r.lics.length≤4096 by omega]
  simp[h5',h6',AB,AA 49 3,AW 49,hf]
 have h6':¬4096 <(r.lics.length:Int):=by omega
 have e5:decide (r.dates.length≤4096)=true:=by simpa using h5
 have e6:decide (r.lics.length≤4096)=true:=by simpa using h6
 rw[e5,e6]at hR;simp only[beq_self_eq_true,rP,pB]at hR;simp[h5',h6',AD];have fin:∀e,AG e 1= .ref 0 0→AG e 3= .v (.int .i64 r.claims.length)→awp Tryz.prog Ah Yg (λe s=>(match e with| .exit _=>False|_=>True)∧CR s (gR 49)=some [.bool R]) ⟨e,[r.row]⟩:=by
  intro e f1 f3;unfold Yg;simp only[AE,AF,AM,AA 49 4,AA 49 5];simp[f1,f3];refine bB r r.claims.length hlc hr.ld [] _ ?_ ?_
  ·intro hd e J g1 g3;rw[decide_eq_true hd,pB]at hR;simp[AA 49 12,g1,g3];refine bA r r.claims.length hlc hr.lb J _ ?_ ?_
   ·intro hb e g1;rw[decide_eq_true hb,pB]at hR;simp[AA 49 17,g1];refine az r hr.owners hr.lo J _ ?_ ?_
    ·intro ho e J2 g1;rw[decide_eq_true ho,pB]at hR;simp[AA 49 23,g1];refine ay r hr.ll J2 _ ?_ ?_
     ·intro hl s;rw[hl]at hR;simp[AA 49 29,AB,AW 49,←hR]
     ·intro hl s hs;rw[hl]at hR;simp[AW 49,hs,←hR]
    ·intro ho s hs;rw[decide_eq_false ho,rE]at hR;simp[AW 49,hs,←hR]
   ·intro hb s hs;rw[decide_eq_false hb]at hR;simp at hR;simp[AW 49,hs,←hR]
  ·intro hd s hs;rw[decide_eq_false hd]at hR;simp at hR;simp[AW 49,hs,←hR]
 exact fin _ rfl rfl
theorem EP (a n:Int) (ha:i64 a):0≤An a n:=by
 unfold An;unfold i64 at ha;split
 ·have e1:IntKind.i64.wrap (a+1)=a+1:=AL;have e2:IntKind.i64.wrap (0-(a+1))=0-(a+1):=AL;rw[e1,e2];exact sM _ (by omega)
 ·exact sM _ (by omega)
theorem OA (l:List Int) (hl:∀n∈l,i64 n) (i n:Int):0≤Ae l i n:=by
 unfold Ae;split
 ·omega
 ·split
  ·rename_i x hx;exact EP x n (hl x (oK hx))
  ·omega
def Jp (k:Int):List Int:=((List.range 6).filter λc=>(k.fdiv (2^(min c IntKind.i64.bits))).tmod 3==1).map λ(c:Nat)=>(c:Int)
def Nt:List (Int×Int):=[(0,1),(1,1),(1,2),(3,2),(2,1),(-1,1),(5,1),(7,3)]
def Mt (l:List Int) (at_ i:Nat):Option Val:=
 let k:=Ae l ((at_+i:Nat):Int) 1048576
 if k.tmod 3=0 then (let r:=(Nt[(((IntKind.i64.wrap (k.tdiv 3)).tmod 8).toNat)]?).getD (0,1);some ⟨i,r.1,r.2⟩) else none
def DT (l:List Int) (at_ n:Nat):List Val:=(List.range n).filterMap (Mt l at_)
def C9 (f:Nat→Th×Nat) (len:Nat):Nat→Nat→List Th×Nat
 |0,at_=>([],at_)
 |n+1,at_=>if at_ <len then ((f at_).1::(C9 f len n (f at_).2).1,(C9 f len n (f at_).2).2) else ([],at_)
def Gm (l:List Int):Nat→Nat→Th×Nat
 |0,at_=>(.mk (Jp (Ae l at_ 1048576)) (DT l (at_+1) 3) [],at_+5)
 |d+1,at_=>(.mk (Jp (Ae l at_ 1048576)) (DT l (at_+1) 3) (C9 (Gm l d) l.length (Ae l ((at_+4:Nat):Int) 4).toNat (at_+5)).1,(C9 (Gm l d) l.length (Ae l ((at_+4:Nat):Int) 4).toNat (at_+5)).2)
theorem F7 (f:Nat→Th×Nat) (len:Nat):∀n at_,(C9 f len n at_).1.length≤n
 |0,at_=>by simp[C9]
 |n+1,at_=>by
  rw[C9];split
  ·have:=F7 f len n (f at_).2;simp;omega
  ·simp
theorem MM (f:Nat→Th×Nat) (len B:Nat) (hf:∀a,(f a).2≤a+B):∀n at_,(C9 f len n at_).2≤at_+n*B
 |0,at_=>by simp[C9]
 |n+1,at_=>by
  rw[C9];split
  ·have h1:=MM f len B hf n (f at_).2;have h2:=hf at_;rw[qK];simp only;omega
  ·simp
theorem F8 (f:Nat→Th×Nat) (len:Nat) (p:Th→Prop) (hf:∀a,p (f a).1):∀n at_,∀x∈(C9 f len n at_).1,p x
 |0,at_,x,hx=>by simp[C9]at hx
 |n+1,at_,x,hx=>by
  rw[C9]at hx;split at hx
  ·rcases oO.1 hx with rfl|hx
   ·exact hf at_
   ·exact F8 f len p hf n _ x hx
  ·cases hx
theorem OK (l:List Int) (i:Int):(Ae l i 4).toNat≤3:=by
 have:=EU l i 4 (by decide);omega
theorem SG (l:List Int):∀d at_,(Gm l d at_).2≤at_+5*4^d
 |0,at_=>by simp[Gm]
 |d+1,at_=>by
  have h:=MM (Gm l d) l.length _ (SG l d) (Ae l ((at_+4:Nat):Int) 4).toNat (at_+5);have h2:=OK l ((at_+4:Nat):Int);have h3:(Ae l ((at_+4:Nat):Int) 4).toNat*(5*4^d)≤3*(5*4^d):=qV _ h2;have h4:1≤4^d:=Nat.one_le_pow _ _ (by decide);rw[Gm,Nat.pow_succ];simp only;omega
theorem UW:∀r∈Nt,(EA r.1 r.2&&decide (r.2≤65536))=true∧(-9223372036854775808≤r.1∧r.1 <9223372036854775808)∧ -9223372036854775808≤r.2∧r.2 <9223372036854775808:=by decide
theorem SI (j:Nat):(Nt[j]?).getD (0,1)∈Nt:=by
 cases h:Nt[j]? with
 |none=>simp[Nt]
 |some r=>exact oK h
theorem Ia (l:List Int) (a i:Nat) (hi:i≤3) (x:Val) (hx:Mt l a i=some x):x.a=i∧Cj x=true∧x.ok:=by
 unfold Mt at hx;simp only at hx;split at hx
 ·simp only[oH]at hx;have hm:=SI ((IntKind.i64.wrap ((Ae l ((a+i:Nat):Int) 1048576).tdiv 3)).tmod 8).toNat;generalize (Nt[((IntKind.i64.wrap ((Ae l ((a+i:Nat):Int) 1048576).tdiv 3)).tmod 8).toNat]?).getD (0,1)=r at hx hm;subst hx;obtain⟨h1,h2,h3⟩:=UW r hm;exact⟨rfl,h1,by simp only[i64];omega,h2,h3⟩
 ·cases hx
theorem Qh (l:List Int) (m:Int) (h1:∀x∈l,0≤x∧x <m) (h2:l.Pairwise (· <·)):Ee l m=true:=by
 unfold Ee;have:((List.range l.length).any (C4 l m))=false:=by
  rw[pu];intro k hk;have hk:=oy.1 hk;have hx:l[k]?=some l[k]:=oI hk;have hm:=h1 _ (pR hk);unfold C4;simp only[List.getD,hx,og,decide_eq_true_eq];intro hb;rcases hb with hb|hb|⟨hb,hc⟩
  ·omega
  ·omega
  ·have hk1:k-1 <l.length:=by omega
   have:=List.pairwise_iff_getElem.1 h2 (k-1) k hk1 hk (by omega);simp only[oI hk1,og]at hc;omega
 rw[this];rfl
theorem JD (k:Int):Ee (Jp k) 64=true∧(Jp k).length≤6∧∀c∈Jp k,0≤c∧c <6:=by
 have hb:∀c∈Jp k,0≤c∧c <6:=by
  intro c hc;unfold Jp at hc;obtain⟨n,hn,rfl⟩:=oP.1 hc;have:=oy.1 (qC.1 hn).1;omega
 refine⟨Qh _ _ (λx hx=>by have:=hb x hx;omega) ?_,?_,hb⟩
 ·unfold Jp;rw[List.pairwise_map];refine List.Pairwise.imp (λh=>by omega) ((rD (n:=6)).filter _)
 ·unfold Jp;rw[oi];have:=pG (λ(c:Nat)=>(k.fdiv (2^(min c IntKind.i64.bits))).tmod 3==1) (List.range 6);simpa using this
theorem IZ (l:List Int) (a:Nat):(DT l a 3).all Cj=true∧Ee ((DT l a 3).map Val.a) 32=true∧(DT l a 3).length≤3∧∀x∈DT l a 3,x.ok:=by
 have hm:∀x∈DT l a 3,∃i,i <3∧Mt l a i=some x:=by
  intro x hx;obtain⟨i,hi,hx⟩:=List.mem_filterMap.1 hx;exact⟨i,oy.1 hi,hx⟩
 refine⟨oY.2 λx hx=>?_,Qh _ _ (λy hy=>?_) ?_,?_,λx hx=>?_⟩
 ·obtain⟨i,hi,hx⟩:=hm x hx;exact(Ia l a i (by omega) x hx).2.1
 ·obtain⟨x,hx,rfl⟩:=oP.1 hy;obtain⟨i,hi,hx⟩:=hm x hx;rw[(Ia l a i (by omega) x hx).1];omega
 ·rw[List.pairwise_map];unfold DT;rw[List.pairwise_filterMap];refine List.Pairwise.imp_of_mem ?_ (rD (n:=3));intro i j hi hj hij x hx y hy;have hi:=oy.1 hi;have hj:=oy.1 hj;rw[(Ia l a i (by omega) x hx).1,(Ia l a j (by omega) y hy).1];omega
 ·have:=qG (Mt l a) (List.range 3);simpa[DT]using this
 ·obtain⟨i,hi,hx⟩:=hm x hx;exact(Ia l a i (by omega) x hx).2.2
structure Th.good (t:Th):Prop where
 ok:t.ok
 fm:t.formed=true
 kd:t.kinds 6=true
theorem Ns (l:List Int):∀d at_,(Gm l d at_).1.good
 |0,at_=>by
  obtain⟨c1,c2,c3⟩:=JD (Ae l at_ 1048576);obtain⟨v1,v2,v3,v4⟩:=IZ l (at_+1);rw[Gm];refine⟨.mk (by omega) (by omega) (by simp) v4 (by simp),?_,?_⟩
  ·rw[Th.formed,v1,c1,v2];rfl
  ·rw[Th.kinds,Th.kindss,rP,oY];intro c hc;have:=c3 c hc;simp;omega
 |d+1,at_=>by
  obtain⟨c1,c2,c3⟩:=JD (Ae l at_ 1048576);obtain⟨v1,v2,v3,v4⟩:=IZ l (at_+1);have hp:=F8 (Gm l d) l.length Th.good (Ns l d) (Ae l ((at_+4:Nat):Int) 4).toNat (at_+5);have hn:=F7 (Gm l d) l.length (Ae l ((at_+4:Nat):Int) 4).toNat (at_+5);have h3:=OK l ((at_+4:Nat):Int);rw[Gm];refine⟨.mk (by omega) (by omega) (by omega) v4 (λp h=>(hp p h).ok),?_,?_⟩
  ·rw[Th.formed,v1,c1,v2,EZ];simp only[pB];exact oY.2 λp h=>(hp p h).fm
  ·rw[Th.kinds,FD,oJ];refine⟨oY.2 λc hc=>?_,oY.2 λp h=>(hp p h).kd⟩;have:=c3 c hc;simp;omega
def FQ:Nat→Int
 |0=>1
 |d+1=>1+3*FQ d
theorem MK:∀d,0 <FQ d
 |0=>by simp[FQ]
 |d+1=>by have:=MK d;rw[FQ];omega
theorem Sw (S lv:Int) (hS:0 <S):∀(ps:List Th),(∀p∈ps,∀lf,S≤lf→lf-S≤p.nd lv lf)→∀lf,ps.length*S≤lf→lf-ps.length*S≤Th.nds ps lv lf
 |[],_,lf,h=>by simp[Th.nds]
 |p::ps,hp,lf,h=>by
  have e:((p::ps).length:Int)*S=ps.length*S+S:=by rw[oj,pr,qg];simp
  have hn:0≤(ps.length:Int)*S:=qe (by omega) (by omega);rw[e]at h ⊢;have h1:=hp p (by simp) lf (by omega);have h2:=Sw S lv hS ps (λq hq=>hp q (by simp[hq])) (p.nd lv lf) (by omega);rw[Th.nds,if_neg (by omega)];omega
theorem SF (l:List Int):∀(d at_:Nat) (lv lf:Int),lv+d≤8→FQ d≤lf→lf-FQ d≤(Gm l d at_).1.nd lv lf
 |0,at_,lv,lf,h1,h2=>by
  simp only[FQ]at h2 ⊢;rw[Gm,Th.nd,if_neg (by omega),Th.nds];omega
 |d+1,at_,lv,lf,h1,h2=>by
  have hpos:=MK d;simp only[FQ]at h2 ⊢;rw[Gm,Th.nd,if_neg (by omega)];have hp:=F8 (Gm l d) l.length (λp=>∀lf,FQ d≤lf→lf-FQ d≤p.nd (lv+1) lf) (λa lf h=>SF l d a (lv+1) lf (by omega) h) (Ae l ((at_+4:Nat):Int) 4).toNat (at_+5);have hn:=F7 (Gm l d) l.length (Ae l ((at_+4:Nat):Int) 4).toNat (at_+5);have h3:=OK l ((at_+4:Nat):Int);generalize (C9 (Gm l d) l.length (Ae l ((at_+4:Nat):Int) 4).toNat (at_+5)).1=ps at*;have h4:(ps.length:Int)*FQ d≤3*FQ d:=qJ (by omega) (by omega);have:=Sw (FQ d) (lv+1) hpos ps hp (lf-1) (by omega);omega
theorem UT (l:List Int) (at_:Nat):Hb (Gm l 2 at_).1=0:=by
 unfold Hb Pj;have h:=SF l 2 at_ 1 96 (by decide) (by decide);have e:FQ 2=13:=by decide
 rw[e]at h;rw[decide_eq_true (by omega),(Ns l 2 at_).fm];rfl
inductive Th.small:Th→Prop
 |mk {cs vs ps} (h1:cs.length≤2^20) (h2:vs.length≤2^20) (h3:ps.length≤2^20) (h5:∀p∈ps,Th.small p):Th.small (.mk cs vs ps)
def cz:AC:=(.seq (.reg (oG 62 2) [1,2,3]) (.seq (.reg (oG 62 3) [1,2,3]) (.seq (.seq (.reg (oG 62 4) [2,3,30,31,32]) (.block 0 (.loop (lG 62 0)))) (.seq (.reg (oG 62 9) [2]) .ret))))
def zP:List D:=[.own 3 1 [],.own 171 3 [],.own 58 3 []]
theorem nh (cs:List Int) (vs:List Val) (ps:List Th) (hn:ps.length≤2^20) (ih:∀p∈ps,PX 62 [p.V] [p.V]) (R0 R1 RA RB:Row) (Q:AExit→St→Prop)
  (hQ:∀e J,AG e 2= .ref 1 0→AG e 3= .ref 5 0→Q (.exit 0) ⟨e,R0::R1::RA::RB:: .cells ((ps.flatMap λp=>p.cells)):: .cells [.sref 2 cs.length,.sref 3 vs.length,.sref 4 ps.length]::J⟩):
  awp Tryz.prog Ah (.loop (lG 62 0)) Q ⟨[(2,.ref 1 0),(3,.ref 5 0),(30,.v (.list (ps.map Th.V))),(31,.v (.int .i64 ps.length)),(32,.v (.int .i64 (0:Nat)))],
   R0::R1::RA::RB:: .cells (List.replicate ps.length zP).flatten:: .cells [.sref 2 cs.length,.sref 3 vs.length,.sref 4 ps.length]::[]⟩:=by
 refine AY ps.length (λk s=>∃J,s=⟨[(2,.ref 1 0),(3,.ref 5 0),(30,.v (.list (ps.map Th.V))),(31,.v (.int .i64 ps.length)),(32,.v (.int .i64 k))],
   R0::R1::RA::RB:: .cells (((ps.take k).flatMap λp=>p.cells)++(List.replicate (ps.length-k) zP).flatten):: .cells [.sref 2 cs.length,.sref 3 vs.length,.sref 4 ps.length]::J⟩) ⟨[],by simp⟩ ?_
 rintro k s hk ⟨J,rfl⟩;simp only[Zw,A8 62 0,AA 62 5];simp;by_cases hkl:k <ps.length
 ·obtain⟨p,hp⟩:∃p,ps[k]?=some p:=⟨_,oI hkl⟩;have q:=ih p (oK hp);have w1:=Bb k;have htk:ps.take (k+1)=ps.take k++[p]:=by rw[oW,hp];rfl
  have e1:ps.length-k=(ps.length-(k+1))+1:=by omega
  have hl3:∀(l:List Th),(l.flatMap λp=>p.cells).length=3*l.length:=by
   intro l;induction l with
   |nil=>rfl
   |cons x l ih=>rw[oZ,oL,ih,oj];simp[Th.cells];omega
  have hA:=hl3 (ps.take k);rw[ol,qH (by omega)]at hA;rw[htk,pm,e1,r7,List.flatten_cons];generalize ((ps.take k).flatMap λp=>p.cells)=A at*;generalize (List.replicate (ps.length-(k+1)) zP).flatten=Zs at*;obtain⟨c1,v1,p1⟩:=p;simp only[Th.V_eq,AH]at q;rw[if_pos (by omega),AD];simp only[AA 62 6];simp[hp,Th.V_eq,AH,AO];simp only[AS,AA 62 7];simp;refine⟨_,_,⟨rfl,rfl⟩,_,q,?_⟩;have hpl:∀(a b c x y z:D),AO (A++a::b::c::Zs) (k*3) [x,y,z]=A++x::y::z::Zs:=by
   intro a b c x y z;have hk3:k*3=A.length:=by omega
   unfold AO;rw[hk3];simp[List.drop_append]
  simp[hkl,zP];rw[hpl,if_pos (by omega)];simp[AA 62 8,w1,Th.cells,Th.cs,Th.vs,Th.ps,AH]
 ·have hk2:k=ps.length:=by omega
  subst hk2;rw[if_neg (by omega),AJ,od,rI];simp only[List.replicate_zero,List.flatten_nil,pz];exact hQ _ J rfl rfl
theorem NF {n:Nat}:∀xs:List V,D.lts n (xs.map .v)=true
 |[]=>rfl
 |x::xs=>by simp only[oV,D.lts,D.lt,NF xs,Bool.and_self]
theorem KX:∀l:List V,D.vs? (l.map D.v)=some l
 |[]=>rfl
 |x::l=>by
  have:=KX l;simp only[oV,D.vs?,D.v?,this]
theorem Yf:(gA 62)=(.seq (.reg (oG 62 0) [1,2]) (.seq (.regA (oG 62 1) [1,2,3] [[],[0],[0,1],[0,1,2],[],[4],[4,5],[4,5,6],[],[8],[8,9],[8,9,10],[0,1,2,3,4,5,6,7,8,9,10,11],[],[0,1,2,3,4,5,6,7,8,9,10,11,12,13]] (.take 0 (.take 1 (.take 2 (.take 4 (.take 5 (.take 6 (.take 8 (.take 9 (.take 10 (.pick (.alt 3 (.pick (.alt 7 (.pick (.alt 11 (.take 12 (.take 13 (.take 14 .done))) (.alt 13 (.take 11 (.take 12 (.take 14 .done))) .none))) (.alt 11 (.pick (.alt 7 (.take 12 (.take 13 (.take 14 .done))) (.alt 13 (.take 7 (.take 12 (.take 14 .done))) .none))) (.alt 13 (.pick (.alt 7 (.take 11 (.take 12 (.take 14 .done))) (.alt 11 (.take 7 (.take 12 (.take 14 .done))) .none))) .none)))) (.alt 7 (.pick (.alt 3 (.pick (.alt 11 (.take 12 (.take 13 (.take 14 .done))) (.alt 13 (.take 11 (.take 12 (.take 14 .done))) .none))) (.alt 11 (.pick (.alt 3 (.take 12 (.take 13 (.take 14 .done))) (.alt 13 (.take 3 (.take 12 (.take 14 .done))) .none))) (.alt 13 (.pick (.alt 3 (.take 11 (.take 12 (.take 14 .done))) (.alt 11 (.take 3 (.take 12 (.take 14 .done))) .none))) .none)))) (.alt 11 (.pick (.alt 3 (.pick (.alt 7 (.take 12 (.take 13 (.take 14 .done))) (.alt 13 (.take 7 (.take 12 (.take 14 .done))) .none))) (.alt 7 (.pick (.alt 3 (.take 12 (.take 13 (.take 14 .done))) (.alt 13 (.take 3 (.take 12 (.take 14 .done))) .none))) (.alt 13 (.pick (.alt 3 (.take 7 (.take 12 (.take 14 .done))) (.alt 7 (.take 3 (.take 12 (.take 14 .done))) .none))) .none)))) (.alt 13 (.pick (.alt 3 (.pick (.alt 7 (.take 11 (.take 12 (.take 14 .done))) (.alt 11 (.take 7 (.take 12 (.take 14 .done))) .none))) (.alt 7 (.pick (.alt 3 (.take 11 (.take 12 (.take 14 .done))) (.alt 11 (.take 3 (.take 12 (.take 14 .done))) .none))) (.alt 11 (.pick (.alt 3 (.take 7 (.take 12 (.take 14 .done))) (.alt 7 (.take 3 (.take 12 (.take 14 .done))) .none))) .none)))) .none))))))))))))))) cz)):=(Ai 62 :)
theorem lz {t:Th} (ht:t.small):PX 62 [t.V] [t.V]:=by
 induction ht with
 | @mk cs vs ps n1 n2 n3 _ ih=>
 have hx:∀l:List Th,(l.flatMap λp=>p.cells)=((l.map Th.V).flatMap V.cells).map .v:=by
  intro l;induction l with
  |nil=>rfl
  |cons x l ih=>obtain⟨a,b,c⟩:=x;rw[oZ,ih,oV,oZ,oh,Th.V_eq];rfl
 have f0:FX 62 [.v (Th.mk cs vs ps).V] [] [.agg [.sref 2 cs.length,.sref 3 vs.length,.sref 4 ps.length]]
   [.cells [.v (AH .i64 cs),.v (.list (vs.map Val.V)),.v (.list (ps.map Th.V))],.cells [.sref 2 cs.length,.sref 3 vs.length,.sref 4 ps.length],.cells (((cs.map (V.int .i64)).flatMap V.cells).map .v),.cells (((vs.map Val.V).flatMap V.cells).map .v),.cells (ps.flatMap λp=>p.cells),.cells [.sref 2 cs.length,.sref 3 vs.length,.sref 4 ps.length]]:=by
  have hlow:∀row∈[Row.cells [.v (AH .i64 cs),.v (.list (vs.map Val.V)),.v (.list (ps.map Th.V))],.cells [.sref 2 cs.length,.sref 3 vs.length,.sref 4 ps.length],.cells (((cs.map (V.int .i64)).flatMap V.cells).map .v),.cells (((vs.map Val.V).flatMap V.cells).map .v),.cells (ps.flatMap λp=>p.cells),.cells [.sref 2 cs.length,.sref 3 vs.length,.sref 4 ps.length]],Row.low 6 row=true:=by
   rw[hx];intro row hrow;simp only[oO,o7,or_false]at hrow;rcases hrow with rfl|rfl|rfl|rfl|rfl|rfl
   ·rfl
   ·rfl
   ·exact NF _
   ·exact NF _
   ·exact NF _
   ·rfl
  refine Ak (D4 62) rfl (by simp) hlow (by simp[D.lt,D.lts]) ?_;rw[Yf,AE,AF];simp[AA 62 0,AQ,Th.V_eq,AH];rw[AE,Bf];obtain⟨dA,eA⟩:∃dA,dA=List.replicate cs.length (D.v (.int .i64 0)):=⟨_,rfl⟩;obtain⟨dB,eB⟩:∃dB,dB=(List.replicate vs.length [D.v (.int .i64 0),.v (.int .i64 0),.v (.int .i64 0)]).flatten:=⟨_,rfl⟩;obtain⟨dC,eC⟩:∃dC,dC=(List.replicate ps.length [D.own 3 1 [],.own 171 3 [],.own 58 3 []]).flatten:=⟨_,rfl⟩;have hA:∀π,D.rens π dA=dA:=λπ=>by rw[eA,Cf];simp[D.ren]
  have hB:∀π,D.rens π dB=dB:=λπ=>by rw[eB,Cf];simp[D.ren]
  have hC:∀π,D.rens π dC=dC:=λπ=>by rw[eC,Cf];simp[D.ren]
  obtain⟨K,hK⟩:∃K:St→Prop,K=λs=>∃s2,PC 2 s s2∧(AG s2.e 1= .ref 0 0∧AG s2.e 2= .ref 1 0∧AG s2.e 3= .ref 5 0∧s2.h=[.cells [.v (AH .i64 cs),.v (.list (vs.map Val.V)),.v (.list (ps.map Th.V))],.cells zP,.cells dA,.cells dB,.cells dC,.cells [.sref 2 cs.length,.sref 3 vs.length,.sref 4 ps.length]]):=⟨_,rfl⟩;refine Bg _ (K:=K) ?_ ?_
  ·rintro s hs;rw[hK]at hs;obtain⟨s2,hr,f1,f2,f3,fh⟩:=hs;refine⟨s2,hr,?_⟩;have hlA:dA.length=cs.length:=by rw[eA];simp
   have hlB:dB.length=vs.length*3:=by rw[eB];simp
   have hh1:BM 1 (cs.map (V.int .i64))=true:=by cases cs<;>rfl
   have hh2:BM 3 (vs.map Val.V)=true:=by cases vs<;>rfl
   have hloop:=λR0 R1 RA RB Q=>nh cs vs ps n3 ih R0 R1 RA RB Q;have eC':(List.replicate ps.length zP).flatten=dC:=eC.symm;rw[eC']at hloop;simp only[cz,AE,AF,AM,AA 62 2];simp[f1,f2,f3,fh,AH,hlA,hh1];simp only[AA 62 3];simp[hlB,hh2];simp only[AA 62 4];simp;simp at hloop;refine hloop _ _ _ _ _ ?_;intro e J g2 g3;simp[AA 62 9,g2,g3,AO,AB,AW 62,zP,D.one?]
  ·have b1:(cs.length:Int)≤16777216:=by omega
   have b2:(vs.length:Int)≤16777216:=by omega
   have b3:(ps.length:Int)≤16777216:=by omega
   simp only[AA 62 1];simp[AO,b1,b2,b3];simp only[←eA,←eB,←eC];subst hK
   and_intros
   ·refine BH [(2,2),(3,3),(4,4),(5,5)] rfl rfl ⟨rfl,rfl,rfl,?_⟩;simp[Ay,List.range,List.range.loop,DM,CC,Row.ren,D.rens,D.ren,hA,hB,hC,zP,AH]
   ·refine BH [(2,2),(3,3),(4,5),(5,4)] rfl rfl ⟨rfl,rfl,rfl,?_⟩;simp[Ay,List.range,List.range.loop,DM,CC,Row.ren,D.rens,D.ren,hA,hB,hC,zP,AH]
   ·refine BH [(2,2),(3,4),(4,3),(5,5)] rfl rfl ⟨rfl,rfl,rfl,?_⟩;simp[Ay,List.range,List.range.loop,DM,CC,Row.ren,D.rens,D.ren,hA,hB,hC,zP,AH]
   ·refine BH [(2,2),(3,4),(4,5),(5,3)] rfl rfl ⟨rfl,rfl,rfl,?_⟩;simp[Ay,List.range,List.range.loop,DM,CC,Row.ren,D.rens,D.ren,hA,hB,hC,zP,AH]
   ·refine BH [(2,2),(3,5),(4,3),(5,4)] rfl rfl ⟨rfl,rfl,rfl,?_⟩;simp[Ay,List.range,List.range.loop,DM,CC,Row.ren,D.rens,D.ren,hA,hB,hC,zP,AH]
   ·refine BH [(2,2),(3,5),(4,4),(5,3)] rfl rfl ⟨rfl,rfl,rfl,?_⟩;simp[Ay,List.range,List.range.loop,DM,CC,Row.ren,D.rens,D.ren,hA,hB,hC,zP,AH]
   ·refine BH [(2,3),(3,2),(4,4),(5,5)] rfl rfl ⟨rfl,rfl,rfl,?_⟩;simp[Ay,List.range,List.range.loop,DM,CC,Row.ren,D.rens,D.ren,hA,hB,hC,zP,AH]
   ·refine BH [(2,3),(3,2),(4,5),(5,4)] rfl rfl ⟨rfl,rfl,rfl,?_⟩;simp[Ay,List.range,List.range.loop,DM,CC,Row.ren,D.rens,D.ren,hA,hB,hC,zP,AH]
   ·refine BH [(2,3),(3,4),(4,2),(5,5)] rfl rfl ⟨rfl,rfl,rfl,?_⟩;simp[Ay,List.range,List.range.loop,DM,CC,Row.ren,D.rens,D.ren,hA,hB,hC,zP,AH]
   ·refine BH [(2,3),(3,4),(4,5),(5,2)] rfl rfl ⟨rfl,rfl,rfl,?_⟩;simp[Ay,List.range,List.range.loop,DM,CC,Row.ren,D.rens,D.ren,hA,hB,hC,zP,AH]
   ·refine BH [(2,3),(3,5),(4,2),(5,4)] rfl rfl ⟨rfl,rfl,rfl,?_⟩;simp[Ay,List.range,List.range.loop,DM,CC,Row.ren,D.rens,D.ren,hA,hB,hC,zP,AH]
   ·refine BH [(2,3),(3,5),(4,4),(5,2)] rfl rfl ⟨rfl,rfl,rfl,?_⟩;simp[Ay,List.range,List.range.loop,DM,CC,Row.ren,D.rens,D.ren,hA,hB,hC,zP,AH]
   ·refine BH [(2,4),(3,2),(4,3),(5,5)] rfl rfl ⟨rfl,rfl,rfl,?_⟩;simp[Ay,List.range,List.range.loop,DM,CC,Row.ren,D.rens,D.ren,hA,hB,hC,zP,AH]
   ·refine BH [(2,4),(3,2),(4,5),(5,3)] rfl rfl ⟨rfl,rfl,rfl,?_⟩;simp[Ay,List.range,List.range.loop,DM,CC,Row.ren,D.rens,D.ren,hA,hB,hC,zP,AH]
   ·refine BH [(2,4),(3,3),(4,2),(5,5)] rfl rfl ⟨rfl,rfl,rfl,?_⟩;simp[Ay,List.range,List.range.loop,DM,CC,Row.ren,D.rens,D.ren,hA,hB,hC,zP,AH]
   ·refine BH [(2,4),(3,3),(4,5),(5,2)] rfl rfl ⟨rfl,rfl,rfl,?_⟩;simp[Ay,List.range,List.range.loop,DM,CC,Row.ren,D.rens,D.ren,hA,hB,hC,zP,AH]
   ·refine BH [(2,4),(3,5),(4,2),(5,3)] rfl rfl ⟨rfl,rfl,rfl,?_⟩;simp[Ay,List.range,List.range.loop,DM,CC,Row.ren,D.rens,D.ren,hA,hB,hC,zP,AH]
   ·refine BH [(2,4),(3,5),(4,3),(5,2)] rfl rfl ⟨rfl,rfl,rfl,?_⟩;simp[Ay,List.range,List.range.loop,DM,CC,Row.ren,D.rens,D.ren,hA,hB,hC,zP,AH]
   ·refine BH [(2,5),(3,2),(4,3),(5,4)] rfl rfl ⟨rfl,rfl,rfl,?_⟩;simp[Ay,List.range,List.range.loop,DM,CC,Row.ren,D.rens,D.ren,hA,hB,hC,zP,AH]
   ·refine BH [(2,5),(3,2),(4,4),(5,3)] rfl rfl ⟨rfl,rfl,rfl,?_⟩;simp[Ay,List.range,List.range.loop,DM,CC,Row.ren,D.rens,D.ren,hA,hB,hC,zP,AH]
   ·refine BH [(2,5),(3,3),(4,2),(5,4)] rfl rfl ⟨rfl,rfl,rfl,?_⟩;simp[Ay,List.range,List.range.loop,DM,CC,Row.ren,D.rens,D.ren,hA,hB,hC,zP,AH]
   ·refine BH [(2,5),(3,3),(4,4),(5,2)] rfl rfl ⟨rfl,rfl,rfl,?_⟩;simp[Ay,List.range,List.range.loop,DM,CC,Row.ren,D.rens,D.ren,hA,hB,hC,zP,AH]
   ·refine BH [(2,5),(3,4),(4,2),(5,3)] rfl rfl ⟨rfl,rfl,rfl,?_⟩;simp[Ay,List.range,List.range.loop,DM,CC,Row.ren,D.rens,D.ren,hA,hB,hC,zP,AH]
   ·refine BH [(2,5),(3,4),(4,3),(5,2)] rfl rfl ⟨rfl,rfl,rfl,?_⟩;simp[Ay,List.range,List.range.loop,DM,CC,Row.ren,D.rens,D.ren,hA,hB,hC,zP,AH]
 have tk:∀(xs:List V) (sz:Nat),(∀x∈xs,x.cells.length=sz)→D.vs? (((xs.flatMap V.cells).map D.v).take (xs.length*sz))=some (xs.flatMap V.cells):=by
  intro xs sz hx;have hl:(xs.flatMap V.cells).length=xs.length*sz:=by
   induction xs with
   |nil=>simp
   |cons x xs ih=>rw[oZ,oL,ih (λy hy=>hx y (by simp[hy])),hx x (by simp),oj,qK,Nat.add_comm]
  rw[o6 (by rw[oi,hl];exact oN _)];exact KX _
 rw[hx]at f0;have s1:∀x∈cs.map (V.int .i64),x.cells.length=1:=by
  intro x hx;obtain⟨c,_,rfl⟩:=oP.1 hx;rfl
 have s2:∀x∈vs.map Val.V,x.cells.length=3:=by
  intro x hx;obtain⟨c,_,rfl⟩:=oP.1 hx;rfl
 have s3:∀x∈ps.map Th.V,x.cells.length=3:=by
  intro x hx;obtain⟨⟨c1,c2,c3⟩,_,rfl⟩:=oP.1 hx;rfl
 have t1:=tk _ 1 s1;have t2:=tk _ 3 s2;have t3:=tk _ 3 s3;rw[oi]at t1 t2 t3;have g1:=f0.frz (i:=0) (xs:=cs.map (V.int .i64)) rfl rfl (by simp) s1 t1;have g2:=g1.frz (i:=1) (xs:=vs.map Val.V) rfl rfl (by simp) s2 t2;have g3:=g2.frz (i:=2) (xs:=ps.map Th.V) rfl rfl (by simp) s3 t3;have g4:=FSp.aggV (xs:=[AH .i64 cs,.list (vs.map Val.V),.list (ps.map Th.V)]) g3;have g5:=FSp.trim (h':=[]) g4 (oN _) (by simp) (by simp[D.lt]);rw[Th.V_eq]at g5 ⊢;exact E6 (args:=[_]) (rets:=[_]) g5
def PH (f:Nat→Th×Nat) (len:Nat) (dd:Int) (n at_:Nat):List Th×Nat:=if 1 <dd then C9 f len n at_ else ([],at_)
theorem kA (l:List Int) (f:Nat→Th×Nat) (dd:Int) (hdd:1≤dd∧dd≤9) (hB:∀a,(f a).2≤a+100) (M:Nat) (hM:M≤10000) (hf:1 <dd→∀a,a≤M+500→PX 60 [AH .i64 l,.int .i64 a,.int .i64 6,.int .i64 (dd-1)] [(f a).1.V,.int .i64 (f a).2])
  (many at_:Nat) (hm:many≤3) (ha:at_≤M+5) (R0:Row) (C W:D) (J0:List Row) (Q:AExit→St→Prop) (res:List Th×Nat) (hres:PH f l.length dd many at_=res)
  (hQ:∀e J,AG e 8= .ref 0 0→AG e 10= .ref 1 0→AG e 1= .v (.int .i64 res.2)→Q (.exit 4) ⟨e,R0:: .cells [C,W,.own 58 3 (res.1.map Th.V)]::J⟩):
  awp Tryz.prog Ah (.loop (lG 60 2)) Q ⟨[(0,.v (AH .i64 l)),(1,.v (.int .i64 at_)),(2,.v (.int .i64 6)),(3,.v (.int .i64 dd)),(8,.ref 0 0),(10,.ref 1 0),(16,.v (.int .i64 many)),(17,.v (.int .i64 (0:Nat)))],R0:: .cells [C,W,.own 58 3 []]::J0⟩:=by
 refine AY many (λk s=>∃(J:List Row) (a:Nat) (done:List Th),s=⟨[(0,.v (AH .i64 l)),(1,.v (.int .i64 a)),(2,.v (.int .i64 6)),(3,.v (.int .i64 dd)),(8,.ref 0 0),(10,.ref 1 0),(16,.v (.int .i64 many)),(17,.v (.int .i64 k))],
   R0:: .cells [C,W,.own 58 3 (done.map Th.V)]::J⟩∧a≤M+5+100*k∧done.length≤k∧(done++(PH f l.length dd (many-k) a).1,(PH f l.length dd (many-k) a).2)=res) ⟨J0,at_,[],by simp,by omega,by simp,by simpa using hres⟩ ?_
 rintro k s hk ⟨J,a,done,rfl,ha,hd,hr⟩;have w1:IntKind.i64.wrap (dd-1)=dd-1:=AL;have w2:=Bb k;have hstop:PH f l.length dd (many-k) a=([],a)→Q (.exit 4) ⟨[(0,.v (AH .i64 l)),(1,.v (.int .i64 a)),(2,.v (.int .i64 6)),(3,.v (.int .i64 dd)),(8,.ref 0 0),(10,.ref 1 0),(16,.v (.int .i64 many)),(17,.v (.int .i64 k)),(95,.v (.bool false))],
   R0:: .cells [C,W,.own 58 3 (done.map Th.V)]::J⟩:=by
  intro h0;rw[h0]at hr;simp only[pz]at hr;subst hr;exact hQ _ J rfl rfl rfl
 simp only[Zw,A8 60 2,AA 60 20];simp[AH]at hstop ⊢;by_cases h1:k <many
 ·have h1':(k:Int) <many:=by omega
  have e1:many-k=(many-(k+1))+1:=by omega
  by_cases h2:1 <dd
  ·by_cases h3:a <l.length
   ·have h3':(a:Int) <l.length:=by omega
    have q:=(hf h2 a (by omega)).fsp;have hb:=hB a;have hroom:AU (done.length+1) 72=true:=by simp[AU];omega
    rw[e1,PH,if_pos h2,C9,if_pos h3]at hr;generalize (f a).2=a2 at*;generalize (f a).1=p at*;obtain⟨pc,pv,pp⟩:=p;simp[AH,Th.V_eq]at q;simp[h1,h2,h3,AD];simp only[AA 60 22];simp[w1];refine⟨_,_,q _,?_⟩;simp[AO];simp only[AA 60 23,AA 60 24,AA 60 21];simp[hroom,w2];refine⟨_,a2,done++[Th.mk pc pv pp],⟨rfl,by simp[Th.V_eq,AH],rfl⟩,by omega,by simp;omega,?_⟩;rw[←hr,PH,if_pos h2];simp
   ·have h0:PH f l.length dd (many-k) a=([],a):=by rw[e1,PH,if_pos h2,C9,if_neg h3]
    simp[h1,h2,h3,AJ];exact hstop h0
  ·have h0:PH f l.length dd (many-k) a=([],a):=by rw[PH,if_neg h2]
   simp[h1,h2,AJ];exact hstop h0
 ·have h0:PH f l.length dd (many-k) a=([],a):=by
   rw[show many-k=0 by omega,PH];split<;>simp[C9]
  simp[h1,AJ];exact⟨by omega,hstop h0⟩
theorem j9 (l:List Int) (hl:∀n∈l,i64 n) (at_:Nat) (ha:at_≤20000) (x2 x3:V) (R0:Row) (C:D) (J0:List Row) (Q:AExit→St→Prop)
  (hQ:∀J,Q (.exit 2) ⟨[(0,.v (AH .i64 l)),(1,.v (.int .i64 (at_+3:Nat))),(2,.v x2),(3,.v x3),(8,.ref 0 0),(10,.ref 1 0),(13,.v (.int .i64 3)),(45,.v (.bool false))],R0:: .cells [C,.own 171 3 ((DT l at_ 3).map Val.V),.own 58 3 []]::J⟩):
  awp Tryz.prog Ah (.loop (lG 60 1)) Q ⟨[(0,.v (AH .i64 l)),(1,.v (.int .i64 at_)),(2,.v x2),(3,.v x3),(8,.ref 0 0),(10,.ref 1 0),(13,.v (.int .i64 (0:Nat)))],R0:: .cells [C,.own 171 3 [],.own 58 3 []]::J0⟩:=by
 refine AY 3 (λk s=>∃J:List Row,s=⟨[(0,.v (AH .i64 l)),(1,.v (.int .i64 (at_+k:Nat))),(2,.v x2),(3,.v x3),(8,.ref 0 0),(10,.ref 1 0),(13,.v (.int .i64 k))],R0:: .cells [C,.own 171 3 ((DT l at_ k).map Val.V),.own 58 3 []]::J⟩) ⟨J0,by simp[DT]⟩ ?_;rintro k s hk ⟨J,rfl⟩;simp only[Zw,A8 60 1,AA 60 10];simp[AH];by_cases h1:k <3
 ·have h1':(k:Int) <3:=by omega
  have w1:=Bb k;have w2:IntKind.i64.wrap (((at_:Int)+k)+1)=at_+(k+1):=by rw[AL];omega
  have q:=(QT l ((at_+k:Nat):Int) 1048576 (by decide)).fsp;have hnn:=OA l hl ((at_+k:Nat):Int) 1048576;have hs:DT l at_ (k+1)=DT l at_ k++(match Mt l at_ k with|some x=>[x]|none=>[]):=by
   unfold DT;rw[po,List.filterMap_append]
   congr 1
   simp only[List.filterMap_cons,List.filterMap_nil];cases Mt l at_ k<;>rfl
  have hlen:(DT l at_ k).length≤k:=by
   have:=qG (Mt l at_) (List.range k);simpa[DT]using this
  have hroom:AU ((DT l at_ k).length+1) 24=true:=by simp[AU];omega
  rw[hs];unfold Mt;simp only;generalize DT l at_ k=L at*;have hle:=EU l ((at_+k:Nat):Int) 1048576 (by decide);generalize Ae l ((at_+k:Nat):Int) 1048576=n at*;have hq1:0≤n.tdiv 3:=Int.tdiv_nonneg hnn (by decide);have hq2:n.tdiv 3≤n:=Int.tdiv_le_self _ hnn;have w3:IntKind.i64.wrap (n.tdiv 3)=n.tdiv 3:=AL;rw[w3];have hm0:0≤(n.tdiv 3).tmod 8:=sM _ hq1;have hm1:(n.tdiv 3).tmod 8 <8:=rM _ (by decide);simp[AH]at q;simp[h1',AD];simp only[AA 60 12];simp;refine⟨_,_,q _,?_⟩;simp only[AA 60 13];by_cases h3:n.tmod 3=0
  ·have:(n.tdiv 3).tmod 8=0∨(n.tdiv 3).tmod 8=1∨(n.tdiv 3).tmod 8=2∨(n.tdiv 3).tmod 8=3∨(n.tdiv 3).tmod 8=4∨(n.tdiv 3).tmod 8=5∨(n.tdiv 3).tmod 8=6∨(n.tdiv 3).tmod 8=7:=by omega
   rcases this with e|e|e|e|e|e|e|e<;>
    simp[h3,AA 60 14,w3,e,V.getI,AO,AA 60 15,AA 60 16,AA 60 11,hroom,w1,w2,h1,Nt,Val.V]
  ·simp[h3,AA 60 16,AA 60 11,w1,w2,h1]
 ·have hk3:k=3:=by omega
  subst hk3;simp[AJ];have:=hQ J;simpa[AH]using this
theorem kB (n:Int) (d0 d1 d3:V) (R0:Row) (Q:AExit→St→Prop)
  (hQ:Q (.exit 0) ⟨[(0,.v d0),(1,.v d1),(2,.v (.int .i64 6)),(3,.v d3),(8,.ref 0 0),(10,.ref 1 0),(11,.v (.int .i64 n)),(12,.v (.int .i64 6)),(28,.v (.bool false))],[R0,.cells [.own 3 1 ((Jp n).map (.int .i64)),.own 171 3 [],.own 58 3 []]]⟩):
  awp Tryz.prog Ah (.loop (lG 60 0)) Q ⟨[(0,.v d0),(1,.v d1),(2,.v (.int .i64 6)),(3,.v d3),(8,.ref 0 0),(10,.ref 1 0),(11,.v (.int .i64 n)),(12,.v (.int .i64 (0:Nat)))],[R0,.cells [.own 3 1 [],.own 171 3 [],.own 58 3 []]]⟩:=by
 refine AN 6 (λk=>⟨[(0,.v d0),(1,.v d1),(2,.v (.int .i64 6)),(3,.v d3),(8,.ref 0 0),(10,.ref 1 0),(11,.v (.int .i64 n)),(12,.v (.int .i64 k))],
  [R0,.cells [.own 3 1 ((((List.range k).filter λc=>(n.fdiv (2^(min c IntKind.i64.bits))).tmod 3==1).map λ(c:Nat)=>(c:Int)).map (.int .i64)),.own 171 3 [],.own 58 3 []]]⟩) (by simp) ?_
 intro k hk;simp only[Zw,A8 60 0,AA 60 5];simp;by_cases h1:k <6
 ·have h1':(k:Int) <6:=by omega
  have w1:=Bb k;have t1:(k:Int).tmod 20=k:=Int.tmod_eq_of_lt (by omega) (by omega);have w2:IntKind.u64.wrap (k:Int)=k:=A9 (by omega) (by omega);have hs:(List.range (k+1)).filter (λc=>(n.fdiv (2^(min c IntKind.i64.bits))).tmod 3==1)=(List.range k).filter (λc=>(n.fdiv (2^(min c IntKind.i64.bits))).tmod 3==1)++(if (n.fdiv (2^(min k IntKind.i64.bits))).tmod 3==1 then [k] else []):=by
   rw[po,pw];simp only[qt,rU]
  have hlen:((List.range k).filter (λc=>(n.fdiv (2^(min c IntKind.i64.bits))).tmod 3==1)).length≤k:=by
   have:=pG (λc=>(n.fdiv (2^(min c IntKind.i64.bits))).tmod 3==1) (List.range k);simpa using this
  rw[hs];generalize (List.range k).filter (λc=>(n.fdiv (2^(min c IntKind.i64.bits))).tmod 3==1)=L at*;have hroom:AU (L.length+1) 8=true:=by simp[AU];omega
  simp[h1',AD];simp only[AA 60 7];simp[t1,w2];by_cases h2:(n.fdiv (2^(min k IntKind.i64.bits))).tmod 3=1
  ·simp[h2,AA 60 8,hroom,AA 60 6,w1,h1]
  ·simp[h2,AA 60 6,w1,h1]
 ·have hk6:k=6:=by omega
  subst hk6;simp[AJ];simpa[Jp]using hQ
theorem XO (l:List Int) (hl:∀n∈l,i64 n) (f:Nat→Th×Nat) (dd:Int) (hdd:1≤dd∧dd≤9) (hB:∀a,(f a).2≤a+100) (M:Nat) (hM:M≤10000) (hf:1 <dd→∀a,a≤M+500→PX 60 [AH .i64 l,.int .i64 a,.int .i64 6,.int .i64 (dd-1)] [(f a).1.V,.int .i64 (f a).2])
  (at_:Nat) (ha:at_≤M) (res:List Th×Nat) (hres:PH f l.length dd (Ae l ((at_+4:Nat):Int) 4).toNat (at_+5)=res):
  PX 60 [AH .i64 l,.int .i64 at_,.int .i64 6,.int .i64 dd] [(Th.mk (Jp (Ae l at_ 1048576)) (DT l (at_+1) 3) res.1).V,.int .i64 res.2]:=by
 refine BJ 60 ?_;have q1:=(QT l at_ 1048576 (by decide)).fsp;have q2:=(QT l ((at_+4:Nat):Int) 4 (by decide)).fsp;have hnn:=OA l hl ((at_+4:Nat):Int) 4;have hm4:=OK l ((at_+4:Nat):Int);have hm:((Ae l ((at_+4:Nat):Int) 4).toNat:Int)=Ae l ((at_+4:Nat):Int) 4:=sN hnn;have w1:IntKind.i64.wrap ((at_:Int)+1)=(at_+1:Nat):=by rw[AL];omega
 have w2:IntKind.i64.wrap ((at_:Int)+1+3+1)=(at_+5:Nat):=by rw[AL];omega
 have hc:=λR0 Q=>kB (Ae l at_ 1048576) (AH .i64 l) (.int .i64 (at_+1:Nat)) (.int .i64 dd) R0 Q;have hv:=λR0 C J Q=>j9 l hl (at_+1) (by omega) (.int .i64 6) (.int .i64 dd) R0 C J Q;have hp:=λR0 C W J Q=>kA l f dd hdd hB M hM hf (Ae l ((at_+4:Nat):Int) 4).toNat (at_+5) hm4 (by omega) R0 C W J Q res hres;rw[hm]at hp;generalize Jp (Ae l at_ 1048576)=C at*;generalize Ae l ((at_+4:Nat):Int) 4=many at*;generalize Ae l at_ 1048576=n at*;generalize DT l (at_+1) 3=W at*;simp[AH]at q1 q2 hc hv hp;simp only[Ai 60,AE,AF,AM,AA 60 0,AA 60 1,AA 60 2,AX];simp[AH,AO];refine⟨_,_,q1 _,?_⟩;simp[AA 60 3,AA 60 4,w1];refine hc _ _ ?_;simp[AA 60 9];refine hv _ _ _ _ ?_;intro J;simp[AA 60 17];have e4:((at_:Int)+1+3)=(at_:Int)+4:=by omega
 rw[e4];refine⟨_,_,q2 _,?_⟩;simp[AA 60 18,AA 60 19];rw[e4]at w2;simp at w2;rw[w2];refine hp _ _ _ _ _ ?_;intro e J' h8 h10 h1;simp[AA 60 25,h8,h10,h1,AO,AB,AW 60,Th.V_eq,AH,D.vs?,D.v?]
theorem SH (l:List Int) (d:Nat) (hd:d≤2) (a:Nat):(Gm l d a).2≤a+100:=by
 have:=SG l d a;have h2:4^d≤4^2:=re (by decide) hd;have h3:(4:Nat)^2=16:=by decide
 omega
theorem ZZ (l:List Int) (hl:∀n∈l,i64 n) (at_:Nat) (ha:at_≤1500):PX 60 [AH .i64 l,.int .i64 at_,.int .i64 6,.int .i64 1] [(Gm l 0 at_).1.V,.int .i64 (Gm l 0 at_).2]:=
 XO l hl (Gm l 0) 1 (by decide) (SH l 0 (by decide)) 1500 (by decide) (λh=>by omega) at_ ha ([],at_+5) (by rw[PH,if_neg (by decide)])
theorem ZY (l:List Int) (hl:∀n∈l,i64 n) (at_:Nat) (ha:at_≤1000):PX 60 [AH .i64 l,.int .i64 at_,.int .i64 6,.int .i64 2] [(Gm l 1 at_).1.V,.int .i64 (Gm l 1 at_).2]:=
 XO l hl (Gm l 0) 2 (by decide) (SH l 0 (by decide)) 1000 (by decide) (λ_ a h=>ZZ l hl a h) at_ ha _ (by rw[PH,if_pos (by decide)])
theorem ZX (l:List Int) (hl:∀n∈l,i64 n) (at_:Nat) (ha:at_≤500):PX 60 [AH .i64 l,.int .i64 at_,.int .i64 6,.int .i64 3] [(Gm l 2 at_).1.V,.int .i64 (Gm l 2 at_).2]:=
 XO l hl (Gm l 1) 3 (by decide) (SH l 1 (by decide)) 500 (by decide) (λ_ a h=>ZY l hl a h) at_ ha _ (by rw[PH,if_pos (by decide)])
def Fz (l:List Int):Th:=(Gm l 2 0).1
theorem nP (l:List Int) (hl:∀n∈l,i64 n):PX 21 [AH .i64 l,.int .i64 6,.int .i64 3] [(Fz l).V]:=by
 refine BJ 21 ?_;have q:=(ZX l hl 0 (by decide)).fsp;unfold Fz;generalize (Gm l 2 0).2=m at*;generalize (Gm l 2 0).1=t at*;obtain⟨cs,vs,ps⟩:=t;simp[AH,Th.V_eq]at q;simp only[Ai 21,AE,AF,AA 21 0,AA 21 1,AX];simp[AH,Th.V_eq];refine⟨_,_,q _,?_⟩;simp[AO,AA 21 2,AB,AW 21,D.vs?,D.v?]
end Go.Va
