/- Laws, part 37. No condition. -/
import Derived.Test.YtbonllhdlmegeaaGreatDoorL33
import Derived.Test.YtbonllhdlmegeaaGreatDoorL35
set_option linter.all false
set_option maxRecDepth 100000
set_option maxHeartbeats 4000000
noncomputable section
namespace Go.Va
open Go.Proofs
def lastD (ds:List Dat):Nat→Int
 |0=> -1
 |j+1=>match ds[j]? with|some y=>64*y.cl+y.ix|none=> -1
def pD (n:Nat) (ds:List Dat) (k:Nat):Bool:=match ds[k]? with|some x=>datOK n x&&decide (lastD ds k <64*x.cl+x.ix)|none=>true
def pL {α:Type} (ok:α→Bool) (f:α→α→Bool) (l:List α) (k:Nat):Bool:=match l[k]? with|some x=>ok x&&prevOK f l k x|none=>true
theorem inI_iff (n lo hi:Int):inI n lo hi=true↔lo≤n∧n≤hi:=by simp[inI]
theorem datOK_b {n:Nat} {x:Dat} (h:datOK n x=true):0≤x.cl∧x.cl≤n-1∧0≤x.ix∧x.ix≤63:=by
 simp only[datOK,Bool.and_eq_true,inI_iff]at h;omega
theorem dates_dec (n:Nat) (ds:List Dat):(ds.all (datOK n)&&rising datLt ds)=decide (∀k <ds.length,pD n ds k=true):=by
 refine rising_all (pD n ds) λk x hx hprev=>?_;simp only[pD,hx];cases hok:datOK n x with
 |false=>simp
 |true=>
  have b:=datOK_b hok;simp only[Bool.true_and];cases k with
  |zero=>
   have: -1 <64*x.cl+x.ix:=by omega
   simp[lastD,this]
  |succ j=>
   cases hy:ds[j]? with
   |none=>
    have: -1 <64*x.cl+x.ix:=by omega
    simp[lastD,hy,this]
   |some y=>
    have h1:=hprev j (by omega);simp only[pD,hy,Bool.and_eq_true]at h1;have b2:=datOK_b h1.1;simp only[lastD,hy,datLt];rw[Bool.eq_iff_iff];simp;omega
theorem list_dec {α:Type} (ok:α→Bool) (f:α→α→Bool) (l:List α):(l.all ok&&rising f l)=decide (∀k <l.length,pL ok f l k=true):=by
 refine rising_all (pL ok f l) λk x hx _=>?_;simp only[pL,hx];rfl
theorem all_dec {α:Type} (ok:α→Bool) (l:List α):l.all ok=decide (∀k <l.length,∀x,l[k]?=some x→ok x=true):=by
 rw[Bool.eq_iff_iff,List.all_eq_true,decide_eq_true_eq]
 constructor
 ·exact λh k _ x hx=>h x (List.mem_of_getElem? hx)
 ·intro h x hx;obtain⟨k,hk⟩:=List.getElem?_of_mem hx;exact h k (List.getElem?_eq_some_iff.1 hk).1 x hk
set_option maxRecDepth 100000 in
theorem l49_0 (r:Rgt) (n:Nat) (hn:n≤2^30) (hl:r.dates.length≤2^30) (J0:List Row) (Q:AExit→St→Prop)
  (hgo:(∀k <r.dates.length,pD n r.dates k=true)→∀e J,find e 1= .ref 0 0→find e 3= .v (.int .i64 n)→Q (.exit 0) ⟨e,r.row::J⟩)
  (hbad:¬(∀k <r.dates.length,pD n r.dates k=true)→∀s,find s.e 2= .v (.bool false)→Q .ret s):
  awp Tryz.prog GLx (.loop (lG 26 0)) Q ⟨[(1,.ref 0 0),(3,.v (.int .i64 n)),(4,.v (.int .i64 (-1))),(5,.v (.int .i64 0))],r.row::J0⟩:=by
 refine awp_loop_I r.dates.length (λk s=>s.e=[(1,.ref 0 0),(3,.v (.int .i64 n)),(4,.v (.int .i64 (lastD r.dates k))),(5,.v (.int .i64 k))]∧(∃J,s.h=r.row::J)∧∀j <k,pD n r.dates j=true) ⟨rfl,⟨J0,rfl⟩,by simp⟩ ?_;rintro k ⟨se,sh⟩ hk ⟨he,⟨J,hh⟩,hI⟩;simp only at he hh;subst he hh;simp only[Zgl 26 0,awp_seq,awp_reg,awp_block,awp_cond,Zge 26 6];simp[Rgt.row];by_cases hlt:k <r.dates.length
 ·obtain⟨x,hx⟩:∃x,r.dates[k]?=some x:=⟨_,List.getElem?_eq_getElem hlt⟩;have hw:IntKind.i64.wrap ((k:Int)+1)=k+1:=wrap_i64 (by omega) (by omega);have hpk:pD n r.dates k=(datOK n x&&decide (lastD r.dates k <64*x.cl+x.ix)):=by simp only[pD,hx]
  have hnx:lastD r.dates (k+1)=64*x.cl+x.ix:=by simp only[lastD,hx]
  rw[if_pos (by omega),awp_skip];simp only[Zge 26 8];simp[hx,Dat.V,putL];refine r49_9 x n (lastD r.dates k) (J.length+1) _ (by simp) hn _ _ _ ?_;intro e' f1 f3 f5 f6 f98;rw[←hpk]at f98;simp[f98];cases hp:pD n r.dates k with
  |false=>
   have hnot:¬ ∀k <r.dates.length,pD n r.dates k=true:=λh=>by rw[h k hlt]at hp;cases hp
   simp[awp_ret,Zge 26 10];exact hbad hnot _ rfl
  |true=>
   rw[hp]at hpk;have hdo:datOK n x=true:=by
    have:=hpk.symm;simp only[Bool.and_eq_true]at this;exact this.1
   have b:=datOK_b hdo;have w1:IntKind.i64.wrap (64*x.cl)=64*x.cl:=wrap_i64 (by omega) (by omega);have w2:IntKind.i64.wrap (64*x.cl+x.ix)=64*x.cl+x.ix:=wrap_i64 (by omega) (by omega);simp[awp_skip,Zge 26 11,f1,f3,f5,f6,w1,w2,Zge 26 7,hw,hlt,hnx];intro j hj;rcases Nat.lt_or_ge j k with h|h
   ·exact hI j h
   ·have:j=k:=by omega
    subst this;exact hp
 ·have:k=r.dates.length:=by omega
  subst this;rw[if_neg (by omega),awp_exit];simp;exact hgo hI _ J rfl rfl
set_option maxRecDepth 100000 in
theorem l49_1 (r:Rgt) (n:Nat) (hn:n≤2^30) (hl:r.bad.length≤2^30) (J:List Row) (Q:AExit→St→Prop)
  (hgo:(∀k <r.bad.length,pL (λi=>inI i 0 (n-1)) (λa b=>decide (a <b)) r.bad k=true)→∀e,find e 1= .ref 0 0→Q (.exit 2) ⟨e,r.row::J⟩)
  (hbad:¬(∀k <r.bad.length,pL (λi=>inI i 0 (n-1)) (λa b=>decide (a <b)) r.bad k=true)→∀s,find s.e 2= .v (.bool false)→Q .ret s):
  awp Tryz.prog GLx (.loop (lG 26 1)) Q ⟨[(1,.ref 0 0),(3,.v (.int .i64 n)),(7,.v (.int .i64 0))],r.row::J⟩:=by
 refine awp_loop_inv r.bad.length (λk=>⟨[(1,.ref 0 0),(3,.v (.int .i64 n)),(7,.v (.int .i64 k))],r.row::J⟩) (λk=>∀j <k,pL (λi=>inI i 0 (n-1)) (λa b=>decide (a <b)) r.bad j=true) rfl (by simp) ?_;intro k hk hI;simp only[Zgl 26 1,awp_seq,awp_reg,awp_block,awp_cond,Zge 26 13];simp[Rgt.row,nums];by_cases hlt:k <r.bad.length
 ·obtain⟨x,hx⟩:∃x,r.bad[k]?=some x:=⟨_,List.getElem?_eq_getElem hlt⟩;have hw:IntKind.i64.wrap ((k:Int)+1)=k+1:=wrap_i64 (by omega) (by omega);have hpk:pL (λi=>inI i 0 (n-1)) (λa b=>decide (a <b)) r.bad k=(inI x 0 (n-1)&&prevOK (λa b=>decide (a <b)) r.bad k x):=by simp only[pL,hx]
  rw[if_pos (by omega),awp_skip];simp only[awp_regD]
  try simp
  refine r49_15 r n k x (r.row::J) rfl hx hn (by omega) _ _ ?_;intro e' f1 f3 f7 f140;rw[←hpk]at f140;simp[f140];cases hp:pL (λi=>inI i 0 (n-1)) (λa b=>decide (a <b)) r.bad k with
  |false=>
   have hnot:¬ ∀k <r.bad.length,pL (λi=>inI i 0 (n-1)) (λa b=>decide (a <b)) r.bad k=true:=λh=>by rw[h k hlt]at hp;cases hp
   simp[awp_ret,Zge 26 16];exact hbad hnot _ rfl
  |true=>
   simp[awp_skip,f1,f3,f7,Zge 26 14,hw,hlt,Rgt.row,nums];intro j hj;rcases Nat.lt_or_ge j k with h|h
   ·exact hI j h
   ·have:j=k:=by omega
    subst this;exact hp
 ·have:k=r.bad.length:=by omega
  subst this;rw[if_neg (by omega),awp_exit];simp;exact hgo hI _ rfl
set_option maxRecDepth 100000 in
theorem l49_2 (r:Rgt) (ho:∀o∈r.owners,o.ok) (hl:r.owners.length≤2^30) (J0:List Row) (Q:AExit→St→Prop)
  (hgo:(∀k <r.owners.length,pL ownOK (λa b=>decide (a.party <b.party)) r.owners k=true)→∀e J,find e 1= .ref 0 0→Q (.exit 4) ⟨e,r.row::J⟩)
  (hbad:¬(∀k <r.owners.length,pL ownOK (λa b=>decide (a.party <b.party)) r.owners k=true)→∀s,find s.e 2= .v (.bool false)→Q .ret s):
  awp Tryz.prog GLx (.loop (lG 26 2)) Q ⟨[(1,.ref 0 0),(8,.v (.int .i64 0))],r.row::J0⟩:=by
 refine awp_loop_I r.owners.length (λk s=>s.e=[(1,.ref 0 0),(8,.v (.int .i64 k))]∧(∃J,s.h=r.row::J)∧∀j <k,pL ownOK (λa b=>decide (a.party <b.party)) r.owners j=true) ⟨rfl,⟨J0,rfl⟩,by simp⟩ ?_;rintro k ⟨se,sh⟩ hk ⟨he,⟨J,hh⟩,hI⟩;simp only at he hh;subst he hh;simp only[Zgl 26 2,awp_seq,awp_reg,awp_block,awp_cond,Zge 26 18];simp[Rgt.row];by_cases hlt:k <r.owners.length
 ·obtain⟨x,hx⟩:∃x,r.owners[k]?=some x:=⟨_,List.getElem?_eq_getElem hlt⟩;have hw:IntKind.i64.wrap ((k:Int)+1)=k+1:=wrap_i64 (by omega) (by omega);have hpk:pL ownOK (λa b=>decide (a.party <b.party)) r.owners k=(ownOK x&&prevOK (λa b=>decide (a.party <b.party)) r.owners k x):=by simp only[pL,hx]
  rw[if_pos (by omega),awp_skip];simp only[Zge 26 20];simp[hx,Own.V,putL,awp_regD];refine r49_21 r k x (ho x (List.mem_of_getElem? hx)) (J.length+1) _ (by rfl) hx (by omega) (by simp) _ ?_;intro e' f1 f8 f193;rw[←hpk]at f193;simp[f193];cases hp:pL ownOK (λa b=>decide (a.party <b.party)) r.owners k with
  |false=>
   have hnot:¬ ∀k <r.owners.length,pL ownOK (λa b=>decide (a.party <b.party)) r.owners k=true:=λh=>by rw[h k hlt]at hp;cases hp
   simp[awp_ret,Zge 26 22];exact hbad hnot _ rfl
  |true=>
   simp[awp_skip,f1,f8,Zge 26 19,hw,hlt];intro j hj;rcases Nat.lt_or_ge j k with h|h
   ·exact hI j h
   ·have:j=k:=by omega
    subst this;exact hp
 ·have:k=r.owners.length:=by omega
  subst this;rw[if_neg (by omega),awp_exit];simp;exact hgo hI _ J rfl
set_option maxRecDepth 100000 in
theorem l49_3 (r:Rgt) (hl:r.lics.length≤2^30) (J0:List Row) (Q:AExit→St→Prop)
  (hgo:r.lics.all licOK=true→∀s,Q (.exit 6) s)
  (hbad:r.lics.all licOK=false→∀s,find s.e 2= .v (.bool false)→Q .ret s):
  awp Tryz.prog GLx (.loop (lG 26 3)) Q ⟨[(1,.ref 0 0),(10,.v (.int .i64 0))],r.row::J0⟩:=by
 refine awp_loop_I r.lics.length (λk s=>s.e=[(1,.ref 0 0),(10,.v (.int .i64 k))]∧(∃J,s.h=r.row::J)∧∀j <k,∀x,r.lics[j]?=some x→licOK x=true) ⟨rfl,⟨J0,rfl⟩,by simp⟩ ?_;rintro k ⟨se,sh⟩ hk ⟨he,⟨J,hh⟩,hI⟩;simp only at he hh;subst he hh;simp only[Zgl 26 3,awp_seq,awp_reg,awp_block,awp_cond,Zge 26 24];simp[Rgt.row];by_cases hlt:k <r.lics.length
 ·obtain⟨x,hx⟩:∃x,r.lics[k]?=some x:=⟨_,List.getElem?_eq_getElem hlt⟩;have hw:IntKind.i64.wrap ((k:Int)+1)=k+1:=wrap_i64 (by omega) (by omega);rw[if_pos (by omega),awp_skip];simp only[Zge 26 26];simp[hx,Lic.V,putL];refine r49_27 x (J.length+1) _ (by simp) _ _ ?_;intro e' f1 f10 f228;simp[f228];cases hp:licOK x with
  |false=>
   have hnot:r.lics.all licOK=false:=by
    rw[List.all_eq_false];exact⟨x,List.mem_of_getElem? hx,by rw[hp];decide⟩
   simp[awp_ret,Zge 26 28];exact hbad hnot _ rfl
  |true=>
   simp[awp_skip,f1,f10,Zge 26 25,hw,hlt];intro j hj y hy;rcases Nat.lt_or_ge j k with h|h
   ·exact hI j h y hy
   ·have:j=k:=by omega
    subst this;rw[hx]at hy;cases hy;exact hp
 ·have:k=r.lics.length:=by omega
  subst this;rw[if_neg (by omega),awp_exit];simp;refine hgo ?_ _;rw[all_dec,decide_eq_true_eq];exact hI
def c49t:AC:=(.seq (.reg (oG 26 4) [1,3,4]) (.seq (.seq (.reg (oG 26 5) [1,3,4,5]) (.block 0 (.loop (lG 26 0)))) (.seq (.seq (.reg (oG 26 12) [1,3,7]) (.block 2 (.loop (lG 26 1)))) (.seq (.seq (.reg (oG 26 17) [1,8]) (.block 4 (.loop (lG 26 2)))) (.seq (.seq (.reg (oG 26 23) [1,10]) (.block 6 (.loop (lG 26 3)))) (.seq (.reg (oG 26 29) [2]) .ret))))))
theorem c49_eq:(gA 26)=(.seq (.reg (oG 26 0) [1]) (.seq (.reg (oG 26 1) [1,3]) (.seq (.seq (.reg (oG 26 2) [1,3,48]) (.cond (.t 48 false) (.seq (.reg (oG 26 3) [2]) .ret) .skip)) c49t))):=(Zga 26 :)
set_option maxRecDepth 100000 in
set_option maxHeartbeats 1000000 in
theorem p49 (r:Rgt) (hr:r.ok):PSp Tryz.prog GLx 26 [r.V] [.bool (formedR r)]:=by
 refine psp_of_awp (Zkk 26) rfl ?_;obtain⟨R,hR⟩:∃R,formedR r=R:=⟨_,rfl⟩;rw[hR];unfold formedR at hR;have hlc:=hr.lc;have p1:=(p125 r.file 0 4095).fsp;have p2:=(p125 r.state 0 4).fsp;have p3:=(p125 r.force 0 4).fsp;have p4:=(p126 r.claims hr.claims (by omega)).fsp;have hD:=dates_dec r.claims.length r.dates;have hB:=list_dec (λi=>inI i 0 (r.claims.length-1)) (λa b=>decide (a <b)) r.bad;have hO:=list_dec ownOK (λa b=>decide (a.party <b.party)) r.owners;rw[hD,hB,hO]at hR;simp at p1 p2 p3 p4;rw[c49_eq];simp only[awp_seq,awp_reg,awp_cond,Zge 26 0,Zge 26 1,entry];simp[Rgt.V,Rgt.cs];generalize inI r.file 0 4095=A1 at*;generalize inI r.state 0 4=A2 at*;generalize inI r.force 0 4=A3 at*;generalize clmsE r.claims=A4 at*;simp only[Zge 26 2];simp;refine⟨_,_,p1 _,?_⟩;cases A1 with
 |false=>simp at hR;simp[awp_ret,Zge 26 3,Zgr 26,hR]
 |true=>
 simp;refine⟨_,_,p2 _,?_⟩;cases A2 with
 |false=>simp at hR;simp[awp_ret,Zge 26 3,Zgr 26,hR]
 |true=>
 simp;refine⟨_,_,p3 _,?_⟩;cases A3 with
 |false=>simp at hR;simp[awp_ret,Zge 26 3,Zgr 26,hR]
 |true=>
 simp;refine⟨_,_,p4 _,?_⟩;by_cases h4:A4=0
 case neg=>
  have hf:R=false:=by rw[←hR];simp[h4]
  simp[h4,awp_ret,Zge 26 3,Zgr 26,hf]
 subst h4;by_cases h5:4096 <r.dates.length
 ·have h5':4096 <(r.dates.length:Int):=by omega
  have hf:R=false:=by rw[←hR];simp[show ¬r.dates.length≤4096 by omega]
  simp[h5',awp_ret,Zge 26 3,Zgr 26,hf]
 have h5':¬4096 <(r.dates.length:Int):=by omega
 by_cases h6:4096 <r.lics.length
 ·have h6':4096 <(r.lics.length:Int):=by omega
  have hf:R=false:=by rw[←hR];simp[show ¬r.lics.length≤4096 by omega]
  simp[h5',h6',awp_ret,Zge 26 3,Zgr 26,hf]
 have h6':¬4096 <(r.lics.length:Int):=by omega
 have e5:decide (r.dates.length≤4096)=true:=by simpa using h5
 have e6:decide (r.lics.length≤4096)=true:=by simpa using h6
 rw[e5,e6]at hR;simp only[beq_self_eq_true,Bool.and_true,Bool.true_and]at hR;simp[h5',h6',awp_skip];have fin:∀e,find e 1= .ref 0 0→find e 3= .v (.int .i64 r.claims.length)→awp Tryz.prog GLx c49t (λe s=>(match e with| .exit _=>False|_=>True)∧resVs s (gR 26)=some [.bool R]) ⟨e,[r.row]⟩:=by
  intro e f1 f3;unfold c49t;simp only[awp_seq,awp_reg,awp_block,Zge 26 4,Zge 26 5];simp[f1,f3];refine l49_0 r r.claims.length hlc hr.ld [] _ ?_ ?_
  ·intro hd e J g1 g3;rw[decide_eq_true hd,Bool.true_and]at hR;simp[Zge 26 12,g1,g3];refine l49_1 r r.claims.length hlc hr.lb J _ ?_ ?_
   ·intro hb e g1;rw[decide_eq_true hb,Bool.true_and]at hR;simp[Zge 26 17,g1];refine l49_2 r hr.owners hr.lo J _ ?_ ?_
    ·intro ho e J2 g1;rw[decide_eq_true ho,Bool.true_and]at hR;simp[Zge 26 23,g1];refine l49_3 r hr.ll J2 _ ?_ ?_
     ·intro hl s;rw[hl]at hR;simp[Zge 26 29,awp_ret,Zgr 26,←hR]
     ·intro hl s hs;rw[hl]at hR;simp[Zgr 26,hs,←hR]
    ·intro ho s hs;rw[decide_eq_false ho,Bool.false_and]at hR;simp[Zgr 26,hs,←hR]
   ·intro hb s hs;rw[decide_eq_false hb]at hR;simp at hR;simp[Zgr 26,hs,←hR]
  ·intro hd s hs;rw[decide_eq_false hd]at hR;simp at hR;simp[Zgr 26,hs,←hR]
 exact fin _ rfl rfl
def parentsV:V:= .list [.list [],.list [.int .i64 0],.list [.int .i64 0],.list [.int .i64 1,.int .i64 2],.list [],.list [.int .i64 4]]
theorem p16:PSp Tryz.prog GLx 95 [] [parentsV]:=by
 refine psp_of_awp (Zkk 95) rfl ?_;simp[Zga 95,awp_seq,awp_reg,awp_ret,Zge 95 0,Zge 95 1,Zgr 95,entry,parentsV]
theorem map_take_succF {α:Type} {l:List α} {k:Nat} {x:α} (h:l[k]?=some x) (f:α→V):(l.map f).take (k+1)=(l.map f).take k++[f x]:=by
 rw[List.take_add_one,List.getElem?_map,h];rfl
theorem l46 (Z:List D):
  awp Tryz.prog GLx (.loop (lG 94 0)) (λe s=>e= .exit 0∧find s.e 5= .ref 0 0∧s.h=[.cells (.own 22 1 (par6.map (nums .i64))::Z)])
   ⟨[(4,.v (.int .i64 6)),(5,.ref 0 0),(14,.v (.list (par6.map (nums .i64)))),(15,.v (.int .i64 6)),(16,.v (.int .i64 0))],[.cells (.own 22 1 []::Z)]⟩:=by
 refine awp_loop_nat0 6 (λk=>⟨[(4,.v (.int .i64 6)),(5,.ref 0 0),(14,.v (.list (par6.map (nums .i64)))),(15,.v (.int .i64 6)),(16,.v (.int .i64 k))],[.cells (.own 22 1 ((par6.take k).map (nums .i64))::Z)]⟩) (by simp) ?_;intro k hk;simp only[Zgl 94 0,awp_seq,awp_reg,awp_block,awp_cond,Zge 94 6];simp;have hp6:par6.length=6:=rfl;by_cases hlt:k <6
 ·obtain⟨ps,hps⟩:∃ps,par6[k]?=some ps:=⟨_,List.getElem?_eq_getElem (by omega)⟩;have hmem:=List.mem_of_getElem? hps;have p1:=(p120a ps hmem).fsp;have p2:=(p121a ps hmem).fsp;have p3:=p122a ps hmem;have hw:IntKind.i64.wrap ((k:Int)+1)=k+1:=wrap_i64 (by omega) (by omega);have e:=map_take_succF hps (nums .i64);have hm:min k par6.length=k:=by omega
  have hroom:roomy (k+1) 24=true:=by simp[roomy];omega
  generalize par6=par at*;rw[if_pos (by omega),awp_skip];simp only[Zge 94 7];simp only[nums]at p1 p2 p3 e;simp at p1 p2;simp[hps,nums];simp only[Zge 94 8];simp;refine⟨_,_,(p1 _),?_⟩;simp;refine⟨_,_,(p2 _),?_⟩;simp[awp_skip,awp_regD,Zge 94 10];refine⟨_,_,⟨rfl,rfl⟩,_,p3,?_⟩;simp[hm,hroom,Zge 94 11,hw,hlt,e]
 ·have:k=6:=by omega
  subst this;rw[if_neg (by omega),awp_exit];have:(par6.map (nums .i64)).take 6=par6.map (nums .i64):=rfl;simp[this]
def zb:List Bool:=List.replicate 4096 false
def zD:List D:=List.replicate 4096 (.v (.bool false))
theorem zD_eq:zD=zb.map bv:=by rw[zD,zb,List.map_replicate]
theorem zD_row:zD.map D.toRow=zD:=by rw[zD,List.map_replicate];rfl
theorem zb_len:zb.length=4096:=by rw[zb,List.length_replicate]
def c46r4':List GI:=[⟨none,.p 12 (.build (.nil 22 1::zD) [])⟩,⟨none,.box 13 (.t 12 false)⟩,⟨none,.mv 5 (.t 13 false)⟩]
theorem c46r4_eq:(oG 94 4)=c46r4':=(Zge 94 4 :)
theorem p46:FSp Tryz.prog GLx 94 [.v (.list (par6.map (nums .i64)))] [] [.ref 0 0,.v (.int .i64 0)] (rowsF (fillN 6 zb) (tfs 6) (tfs 6)):=by
 refine fsp_of_awp (Zkk 94) rfl ?_;have q:=l46 zD;have q2:=p123 zb zb_len;rw[txR,←zD_eq,parD]at q2;generalize rowsF (fillN 6 zb) (tfs 6) (tfs 6)=HH at*;have hp6:par6.length=6:=rfl;have hz:=zD_row;simp only[Zga 94,awp_seq,awp_reg,awp_block,awp_cond,Zge 94 0,Zge 94 1,entryD];rw[c46r4_eq];unfold c46r4';generalize zD=Z at*;generalize par6=par at*;simp[hp6,Zge 94 2,awp_skip];simp[hz,Zge 94 5,hp6];refine awp_mono _ ?_ q;rintro e ⟨se,sh⟩ ⟨rfl,f5,hh⟩;simp only at f5 hh;subst hh;simp[Zge 94 12,f5];refine⟨_,_,q2,?_⟩;simp[Zge 94 14,awp_ret,Zgr 94,f5]
def spoilF (r:Rgt) (how by_:Int):Rgt:=
 let h:=aroundI how 10
 if h=0 then {r with file:=by_}
 else if h=1 then {r with state:=by_}
 else if h=2 then {r with force:=by_}
 else if h=3 then {r with claims:=r.claims++[⟨[by_],.mk 0 0 [] []⟩]}
 else if h=4 then {r with dates:=r.dates++[⟨(r.claims.length:Int)-1,by_,0,0⟩]}
 else if h=5 then {r with dates:=r.dates++[⟨by_,63,by_,0⟩]}
 else if h=6 then {r with bad:=r.bad++[by_]}
 else if h=7 then {r with owners:=r.owners++[⟨by_,1,1⟩]}
 else if h=8 then {r with owners:=r.owners++[⟨4095,by_,2⟩]}
 else {r with lics:=r.lics++[⟨1,2,5,by_⟩]}
theorem spoilF_tiny {m:Nat} {r:Rgt} (h:r.tiny m) (hm:m≤2^40) (how by_:Int) (hb:i64 by_):(spoilF r how by_).tiny (m+1):=by
 have h0:=h.lc;have h1:=h.ld;have h2:=h.lb;have h3:=h.lo;have h4:=h.ll;have hcl:∀c∈r.claims++[⟨[by_],.mk 0 0 [] []⟩],c.tiny:=by
  intro c hc;rcases List.mem_append.1 hc with hc|hc
  ·exact h.claims c hc
  ·simp only[List.mem_singleton]at hc;subst hc;exact⟨by simpa using hb,by simp,(tiny_node (m:=0) (by simp[i64]) (by simp)).mono (by simp)⟩
 have ap:∀ {α:Type} {P:α→Prop} {l:List α} {x:α},(∀y∈l,P y)→P x→∀y∈l++[x],P y:=by
  intro α P l x h1 h2 y hy;rcases List.mem_append.1 hy with hy|hy
  ·exact h1 y hy
  ·simp only[List.mem_singleton]at hy;subst hy;exact h2
 have z:i64 0:=by simp[i64]
 unfold spoilF;simp only
 repeat' split
 ·exact⟨hb,h.state,h.force,h.claims,h.dates,h.bad,h.owners,h.lics,by simp only;omega,by simp only;omega,by simp only;omega,by simp only;omega,by simp only;omega⟩
 ·exact⟨h.file,hb,h.force,h.claims,h.dates,h.bad,h.owners,h.lics,by simp only;omega,by simp only;omega,by simp only;omega,by simp only;omega,by simp only;omega⟩
 ·exact⟨h.file,h.state,hb,h.claims,h.dates,h.bad,h.owners,h.lics,by simp only;omega,by simp only;omega,by simp only;omega,by simp only;omega,by simp only;omega⟩
 ·exact⟨h.file,h.state,h.force,hcl,h.dates,h.bad,h.owners,h.lics,by simpa using h0,by simp only;omega,by simp only;omega,by simp only;omega,by simp only;omega⟩
 ·exact⟨h.file,h.state,h.force,h.claims,ap h.dates ⟨by unfold i64;simp only;omega,hb,z,z⟩,h.bad,h.owners,h.lics,by simp only;omega,by simpa using h1,by simp only;omega,by simp only;omega,by simp only;omega⟩
 ·exact⟨h.file,h.state,h.force,h.claims,ap h.dates ⟨hb,by simp[i64],hb,z⟩,h.bad,h.owners,h.lics,by simp only;omega,by simpa using h1,by simp only;omega,by simp only;omega,by simp only;omega⟩
 ·exact⟨h.file,h.state,h.force,h.claims,h.dates,ap h.bad hb,h.owners,h.lics,by simp only;omega,by simp only;omega,by simpa using h2,by simp only;omega,by simp only;omega⟩
 ·exact⟨h.file,h.state,h.force,h.claims,h.dates,h.bad,ap h.owners ⟨hb,by simp[i64],by simp[i64]⟩,h.lics,by simp only;omega,by simp only;omega,by simp only;omega,by simpa using h3,by simp only;omega⟩
 ·exact⟨h.file,h.state,h.force,h.claims,h.dates,h.bad,ap h.owners ⟨by simp[i64],hb,by simp[i64]⟩,h.lics,by simp only;omega,by simp only;omega,by simp only;omega,by simpa using h3,by simp only;omega⟩
 ·exact⟨h.file,h.state,h.force,h.claims,h.dates,h.bad,h.owners,ap h.lics ⟨by simp[i64],by simp[i64],by simp[i64],hb⟩,by simp only;omega,by simp only;omega,by simp only;omega,by simp only;omega,by simpa using h4⟩
theorem ho_dat (l:List Dat):headOK 4 (l.map Dat.V)=true:=by cases l<;>rfl
theorem ho_own (l:List Own):headOK 3 (l.map Own.V)=true:=by cases l<;>rfl
theorem ho_lic (l:List Lic):headOK 4 (l.map Lic.V)=true:=by cases l<;>rfl
theorem ho_clm (l:List Clm):headOK 5 (l.map Clm.V)=true:=by cases l<;>rfl
set_option maxRecDepth 100000 in
set_option maxHeartbeats 2000000 in
theorem p12 {m:Nat} (r:Rgt) (ht:r.tiny m) (hm:m≤2^20) (how by_:Int):PSp Tryz.prog GLx 5 [r.V,.int .i64 how,.int .i64 by_] [(spoilF r how by_).V]:=by
 refine psp_of_awp (Zkk 5) rfl ?_;have p1:=(p11 how 10 (by decide)).fsp;have r0:=ht.lc;have r1:=ht.ld;have r2:=ht.lb;have r3:=ht.lo;have r4:=ht.ll;have b0:roomy (r.claims.length+1) 88=true:=by simp[roomy];omega
 have b1:roomy (r.dates.length+1) 32=true:=by simp[roomy];omega
 have b2:roomy (r.bad.length+1) 8=true:=by simp[roomy];omega
 have b3:roomy (r.owners.length+1) 24=true:=by simp[roomy];omega
 have b4:roomy (r.lics.length+1) 32=true:=by simp[roomy];omega
 have d0:roomy r.claims.length 88=true:=by simp[roomy];omega
 have d1:roomy r.dates.length 32=true:=by simp[roomy];omega
 have d2:roomy r.bad.length 8=true:=by simp[roomy];omega
 have d3:roomy r.owners.length 24=true:=by simp[roomy];omega
 have d4:roomy r.lics.length 32=true:=by simp[roomy];omega
 have w1:IntKind.i64.wrap ((r.claims.length:Int)-1)=r.claims.length-1:=wrap_i64 (by omega) (by omega);have hs:spoilF r how by_=spoilF r how by_:=rfl;obtain⟨S,hS⟩:∃S,spoilF r how by_=S:=⟨_,rfl⟩;rw[hS];unfold spoilF at hS;generalize aroundI how 10=h at*;simp at p1;simp only[Zga 5,awp_seq,awp_reg,awp_block,Zge 5 0,Zge 5 1,entry];simp[Rgt.V,Rgt.cs,nums,putL,d1,ho_dat];simp[Zge 5 2,d2];simp[Zge 5 3,d3,ho_own];simp[Zge 5 4,d4,ho_lic,Zge 5 5];refine⟨_,_,p1 _,?_⟩;simp only[awp_seq,awp_reg,awp_cond,Zge 5 7];simp;by_cases h0:h=0
 ·subst h0;simp at hS;subst hS;simp[Zge 5 8,putL,Zge 5 25,awp_ret,Zgr 5,D.vs?,D.v?]
 by_cases h1:h=1
 ·subst h1;simp at hS;subst hS;simp[Zge 5 9,Zge 5 10,putL,Zge 5 25,awp_ret,Zgr 5,D.vs?,D.v?]
 by_cases h2:h=2
 ·subst h2;simp at hS;subst hS;simp[Zge 5 9,Zge 5 11,Zge 5 12,putL,Zge 5 25,awp_ret,Zgr 5,D.vs?,D.v?]
 by_cases h3:h=3
 ·subst h3;simp at hS;subst hS;simp[Zge 5 9,Zge 5 11,Zge 5 13,Zge 5 14,putL,b0,d0,ho_clm,Zge 5 25,awp_ret,Zgr 5,D.vs?,D.v?,Clm.V,F.op,F.n,F.ins,F.kids,nums]
 by_cases h4:h=4
 ·subst h4;simp at hS;subst hS;simp[Zge 5 9,Zge 5 11,Zge 5 13,Zge 5 15,Zge 5 16,putL,b1,w1,Zge 5 25,awp_ret,Zgr 5,D.vs?,D.v?,Dat.V]
 by_cases h5:h=5
 ·subst h5;simp at hS;subst hS;simp[Zge 5 9,Zge 5 11,Zge 5 13,Zge 5 15,Zge 5 17,Zge 5 18,putL,b1,Zge 5 25,awp_ret,Zgr 5,D.vs?,D.v?,Dat.V]
 by_cases h6:h=6
 ·subst h6;simp at hS;subst hS;simp[Zge 5 9,Zge 5 11,Zge 5 13,Zge 5 15,Zge 5 17,Zge 5 19,Zge 5 20,putL,b2,Zge 5 25,awp_ret,Zgr 5,D.vs?,D.v?]
 by_cases h7:h=7
 ·subst h7;simp at hS;subst hS;simp[Zge 5 9,Zge 5 11,Zge 5 13,Zge 5 15,Zge 5 17,Zge 5 19,Zge 5 21,Zge 5 22,putL,b3,Zge 5 25,awp_ret,Zgr 5,D.vs?,D.v?,Own.V]
 by_cases h8:h=8
 ·subst h8;simp at hS;subst hS;simp[Zge 5 9,Zge 5 11,Zge 5 13,Zge 5 15,Zge 5 17,Zge 5 19,Zge 5 21,Zge 5 23,Zge 5 24,putL,b3,Zge 5 25,awp_ret,Zgr 5,D.vs?,D.v?,Own.V]
 simp[h0,h1,h2,h3,h4,h5,h6,h7,h8]at hS;subst hS;simp[h0,h1,h2,h3,h4,h5,h6,h7,h8,Zge 5 9,Zge 5 11,Zge 5 13,Zge 5 15,Zge 5 17,Zge 5 19,Zge 5 21,Zge 5 23,Zge 5 6,putL,b4,Zge 5 25,awp_ret,Zgr 5,D.vs?,D.v?,Lic.V]
set_option maxRecDepth 100000 in
theorem l54_0 (r:Rgt) (hds:∀d∈r.dates,d.ok) (hn:r.dates.length≤2^30) (Y:List Int) (hY:Y.length≤2^43) (J:List Row):
  awp Tryz.prog GLx (.loop (lG 8 0)) (λe s=>e= .exit 0∧find s.e 1= .ref 0 0∧find s.e 7= .own 5 1 ((Y++r.dates.flatMap encDat).map (.int .u8))∧∃J2,s.h=r.row::J2)
   ⟨[(1,.ref 0 0),(7,.own 5 1 (Y.map (.int .u8))),(8,.v (.int .i64 0))],r.row::J⟩:=by
 refine awp_loop_I r.dates.length (λk s=>s.e=[(1,.ref 0 0),(7,.own 5 1 ((Y++(r.dates.take k).flatMap encDat).map (.int .u8))),(8,.v (.int .i64 k))]∧∃J2,s.h=r.row::J2) ⟨by simp,J,by simp⟩ ?_;rintro k ⟨se,sh⟩ hk ⟨he,J2,hh⟩;simp only at he hh;subst he hh;simp only[Zgl 8 0,awp_seq,awp_reg,awp_block,awp_cond,Zge 8 9];simp[Rgt.row];by_cases hlt:k <r.dates.length
 ·obtain⟨x,hxk⟩:∃x,r.dates[k]?=some x:=⟨_,List.getElem?_eq_getElem hlt⟩;have hxe:r.dates[k]=x:=(List.getElem?_eq_some_iff.1 hxk).2;have hx:=hds x (List.mem_of_getElem? hxk);have hw:IntKind.i64.wrap ((k:Int)+1)=k+1:=wrap_i64 (by omega) (by omega);have hle:=flat40 encDat_len (r.dates.take k);have ht:(r.dates.take k).length=k:=by simp;omega
  have e:(r.dates.take (k+1)).flatMap encDat=(r.dates.take k).flatMap encDat++encDat x:=by rw[flat_take hlt,hxe]
  have:=encI_len x.cl;have:=encI_len x.ix;have:=encI_len x.day;have:=encI_len x.file;obtain⟨X,hX⟩:∃X,Y++(r.dates.take k).flatMap encDat=X:=⟨_,rfl⟩;have hXl:X.length≤2^44:=by rw[←hX,List.length_append];omega
  have q0:=p135 (X) x.cl hx.1 (by first|omega|(simp only[List.length_append];omega))
  try simp at q0
  have q1:=p135 (X++encI x.cl) x.ix hx.2.1 (by first|omega|(simp only[List.length_append];omega))
  try simp at q1
  have q2:=p135 (X++encI x.cl++encI x.ix) x.day hx.2.2.1 (by first|omega|(simp only[List.length_append];omega))
  try simp at q2
  have q3:=p135 (X++encI x.cl++encI x.ix++encI x.day) x.file hx.2.2.2 (by first|omega|(simp only[List.length_append];omega))
  try simp at q3
  have hend:(Y++(r.dates.take (k+1)).flatMap encDat).map (V.int .u8)=(X++encI x.cl++encI x.ix++encI x.day++encI x.file).map (V.int .u8):=by rw[e,←List.append_assoc,hX];simp[encDat]
  have hX2:Y.map (V.int .u8)++((r.dates.take k).flatMap encDat).map (V.int .u8)=X.map (V.int .u8):=by rw[←hX,List.map_append]
  rw[if_pos (by omega),awp_skip];simp only[Zge 8 11];simp[hxk,Dat.V,putL,awp_regD];simp only[Zge 8 12];simp
  try simp only[List.map_append]at hX2
  try rw[hX2]
  refine⟨_,q0,?_⟩;simp;refine⟨_,q1,?_⟩;simp;refine⟨_,q2,?_⟩;simp;refine⟨_,q3,?_⟩;simp;simp[Zge 8 10,hw,hlt]
  try simp at hend
  exact hend.symm
 ·have:k=r.dates.length:=by omega
  subst this;rw[if_neg (by omega),awp_exit];simp
set_option maxRecDepth 100000 in
theorem l54_1 (r:Rgt) (hds:∀d∈r.owners,d.ok) (hn:r.owners.length≤2^30) (Y:List Int) (hY:Y.length≤2^43) (J:List Row):
  awp Tryz.prog GLx (.loop (lG 8 1)) (λe s=>e= .exit 2∧find s.e 1= .ref 0 0∧find s.e 7= .own 5 1 ((Y++r.owners.flatMap encOwn).map (.int .u8))∧∃J2,s.h=r.row::J2)
   ⟨[(1,.ref 0 0),(7,.own 5 1 (Y.map (.int .u8))),(10,.v (.int .i64 0))],r.row::J⟩:=by
 refine awp_loop_I r.owners.length (λk s=>s.e=[(1,.ref 0 0),(7,.own 5 1 ((Y++(r.owners.take k).flatMap encOwn).map (.int .u8))),(10,.v (.int .i64 k))]∧∃J2,s.h=r.row::J2) ⟨by simp,J,by simp⟩ ?_;rintro k ⟨se,sh⟩ hk ⟨he,J2,hh⟩;simp only at he hh;subst he hh;simp only[Zgl 8 1,awp_seq,awp_reg,awp_block,awp_cond,Zge 8 16];simp[Rgt.row];by_cases hlt:k <r.owners.length
 ·obtain⟨x,hxk⟩:∃x,r.owners[k]?=some x:=⟨_,List.getElem?_eq_getElem hlt⟩;have hxe:r.owners[k]=x:=(List.getElem?_eq_some_iff.1 hxk).2;have hx:=hds x (List.mem_of_getElem? hxk);have hw:IntKind.i64.wrap ((k:Int)+1)=k+1:=wrap_i64 (by omega) (by omega);have hle:=flat40 encOwn_len (r.owners.take k);have ht:(r.owners.take k).length=k:=by simp;omega
  have e:(r.owners.take (k+1)).flatMap encOwn=(r.owners.take k).flatMap encOwn++encOwn x:=by rw[flat_take hlt,hxe]
  have:=encI_len x.party;have:=encI_len x.num;have:=encI_len x.den;obtain⟨X,hX⟩:∃X,Y++(r.owners.take k).flatMap encOwn=X:=⟨_,rfl⟩;have hXl:X.length≤2^44:=by rw[←hX,List.length_append];omega
  have q0:=p135 (X) x.party hx.1 (by first|omega|(simp only[List.length_append];omega))
  try simp at q0
  have q1:=p135 (X++encI x.party) x.num hx.2.1 (by first|omega|(simp only[List.length_append];omega))
  try simp at q1
  have q2:=p135 (X++encI x.party++encI x.num) x.den hx.2.2 (by first|omega|(simp only[List.length_append];omega))
  try simp at q2
  have hend:(Y++(r.owners.take (k+1)).flatMap encOwn).map (V.int .u8)=(X++encI x.party++encI x.num++encI x.den).map (V.int .u8):=by rw[e,←List.append_assoc,hX];simp[encOwn]
  have hX2:Y.map (V.int .u8)++((r.owners.take k).flatMap encOwn).map (V.int .u8)=X.map (V.int .u8):=by rw[←hX,List.map_append]
  rw[if_pos (by omega),awp_skip];simp only[Zge 8 18];simp[hxk,Own.V,putL,awp_regD];simp only[Zge 8 19];simp
  try simp only[List.map_append]at hX2
  try rw[hX2]
  refine⟨_,q0,?_⟩;simp;refine⟨_,q1,?_⟩;simp;refine⟨_,q2,?_⟩;simp;simp[Zge 8 17,hw,hlt]
  try simp at hend
  exact hend.symm
 ·have:k=r.owners.length:=by omega
  subst this;rw[if_neg (by omega),awp_exit];simp
set_option maxRecDepth 100000 in
theorem l54_2 (r:Rgt) (hds:∀d∈r.lics,d.ok) (hn:r.lics.length≤2^30) (Y:List Int) (hY:Y.length≤2^43) (J:List Row):
  awp Tryz.prog GLx (.loop (lG 8 2)) (λe s=>e= .exit 4∧find s.e 1= .ref 0 0∧find s.e 7= .own 5 1 ((Y++r.lics.flatMap encLic).map (.int .u8))∧∃J2,s.h=r.row::J2)
   ⟨[(1,.ref 0 0),(7,.own 5 1 (Y.map (.int .u8))),(12,.v (.int .i64 0))],r.row::J⟩:=by
 refine awp_loop_I r.lics.length (λk s=>s.e=[(1,.ref 0 0),(7,.own 5 1 ((Y++(r.lics.take k).flatMap encLic).map (.int .u8))),(12,.v (.int .i64 k))]∧∃J2,s.h=r.row::J2) ⟨by simp,J,by simp⟩ ?_;rintro k ⟨se,sh⟩ hk ⟨he,J2,hh⟩;simp only at he hh;subst he hh;simp only[Zgl 8 2,awp_seq,awp_reg,awp_block,awp_cond,Zge 8 22];simp[Rgt.row];by_cases hlt:k <r.lics.length
 ·obtain⟨x,hxk⟩:∃x,r.lics[k]?=some x:=⟨_,List.getElem?_eq_getElem hlt⟩;have hxe:r.lics[k]=x:=(List.getElem?_eq_some_iff.1 hxk).2;have hx:=hds x (List.mem_of_getElem? hxk);have hw:IntKind.i64.wrap ((k:Int)+1)=k+1:=wrap_i64 (by omega) (by omega);have hle:=flat40 encLic_len (r.lics.take k);have ht:(r.lics.take k).length=k:=by simp;omega
  have e:(r.lics.take (k+1)).flatMap encLic=(r.lics.take k).flatMap encLic++encLic x:=by rw[flat_take hlt,hxe]
  have:=encI_len x.fr;have:=encI_len x.to;have:=encI_len x.fst;have:=encI_len x.lst;obtain⟨X,hX⟩:∃X,Y++(r.lics.take k).flatMap encLic=X:=⟨_,rfl⟩;have hXl:X.length≤2^44:=by rw[←hX,List.length_append];omega
  have q0:=p135 (X) x.fr hx.1 (by first|omega|(simp only[List.length_append];omega))
  try simp at q0
  have q1:=p135 (X++encI x.fr) x.to hx.2.1 (by first|omega|(simp only[List.length_append];omega))
  try simp at q1
  have q2:=p135 (X++encI x.fr++encI x.to) x.fst hx.2.2.1 (by first|omega|(simp only[List.length_append];omega))
  try simp at q2
  have q3:=p135 (X++encI x.fr++encI x.to++encI x.fst) x.lst hx.2.2.2 (by first|omega|(simp only[List.length_append];omega))
  try simp at q3
  have hend:(Y++(r.lics.take (k+1)).flatMap encLic).map (V.int .u8)=(X++encI x.fr++encI x.to++encI x.fst++encI x.lst).map (V.int .u8):=by rw[e,←List.append_assoc,hX];simp[encLic]
  have hX2:Y.map (V.int .u8)++((r.lics.take k).flatMap encLic).map (V.int .u8)=X.map (V.int .u8):=by rw[←hX,List.map_append]
  rw[if_pos (by omega),awp_skip];simp only[Zge 8 24];simp[hxk,Lic.V,putL,awp_regD];simp only[Zge 8 25];simp
  try simp only[List.map_append]at hX2
  try rw[hX2]
  refine⟨_,q0,?_⟩;simp;refine⟨_,q1,?_⟩;simp;refine⟨_,q2,?_⟩;simp;refine⟨_,q3,?_⟩;simp;simp[Zge 8 23,hw,hlt]
  try simp at hend
  exact hend.symm
 ·have:k=r.lics.length:=by omega
  subst this;rw[if_neg (by omega),awp_exit];simp
set_option maxRecDepth 100000 in
set_option maxHeartbeats 2000000 in
theorem p54 (r:Rgt) (hr:r.ok):PSp Tryz.prog GLx 8 [r.V] [nums .u8 (if formedR r then encR r else []),.int .i64 (if formedR r then 0 else 1)]:=by
 refine psp_of_awp (Zkk 8) rfl ?_;have p1:=(p49 r hr).fsp;have hlb:=hr.lb;have hld:=hr.ld;have hlo:=hr.lo;have hll:=hr.ll;have henc:=hr.enc;have hcl:formedR r=true→clmsE r.claims=0:=by
  intro h;unfold formedR at h;simp at h;exact h.1.1.1.1.1.1.2
 have p2:=(p134 r.claims hr.claims (by have:=hr.lc;omega) (by omega)).fsp;cases hf:formedR r with
 |false=>
  rw[hf]at p1;simp only[Zga 8,awp_seq,awp_reg,awp_cond,Zge 8 0,Zge 8 1,entry];simp[Rgt.V,Rgt.cs]at p1 ⊢;refine⟨_,_,p1 _,?_⟩;simp[awp_ret,Zge 8 2,Zge 8 3,Zgr 8,nums]
 |true=>
  rw[hf]at p1;rw[hcl hf]at p2;simp at p2;obtain⟨R,hR⟩:∃R,encR r=R:=⟨_,rfl⟩;rw[hR];have i1:=encI_len r.file;have i2:=encI_len r.state;have i3:=encI_len r.force;have q0:=p135n r.file hr.file;have q1:=p135 (encI r.file) r.state hr.state (by omega);obtain⟨Y1,hY1⟩:∃Y,encI r.file++encI r.state=Y:=⟨_,rfl⟩;rw[hY1]at q1;have m1:Y1.length≤20:=by rw[←hY1,List.length_append];omega
  have q2:=p135 Y1 r.force hr.force (by omega);obtain⟨X1,hX1⟩:∃X1,Y1++encI r.force=X1:=⟨_,rfl⟩;have l1:X1.length≤30:=by rw[←hX1,List.length_append];omega
  rw[hX1]at q2;have q3:=p105 (encClms r.claims) (by omega);have hraw:(encRaw (encClms r.claims)).length≤2^40:=by have:=uvar_len (encClms r.claims).length;simp only[encRaw,List.length_append];omega
  obtain⟨W,hW⟩:∃W,encRaw (encClms r.claims)=W:=⟨_,rfl⟩;rw[hW]at q3 hraw;obtain⟨X2,hX2⟩:∃X2,X1++W=X2:=⟨_,rfl⟩;have l2:X2.length≤2^41:=by rw[←hX2,List.length_append];omega
  have q4:=p135 X2 r.dates.length (by unfold i64;omega) (by omega);obtain⟨X3,hX3⟩:∃X3,X2++encI r.dates.length=X3:=⟨_,rfl⟩;have i4:=encI_len r.dates.length;have l3:X3.length≤2^41+10:=by rw[←hX3,List.length_append];omega
  rw[hX3]at q4;have q5:=λJ=>l54_0 r hr.dates hld X3 (by omega) J;have i5:=flat40 encDat_len r.dates;obtain⟨X4,hX4⟩:∃X4,X3++r.dates.flatMap encDat=X4:=⟨_,rfl⟩;have l4:X4.length≤2^41+2^37:=by rw[←hX4,List.length_append];omega
  rw[hX4]at q5;have q6:=λh=>p107 r.bad hr.bad (by omega) h;have i6:=flat_encI_len r.bad;have i7:=uvar_len r.bad.length;obtain⟨W2,hW2⟩:∃W,encInts r.bad=W:=⟨_,rfl⟩;have w2:W2.length≤2^37:=by rw[←hW2,encInts,List.length_append];omega
  rw[hW2]at q6;obtain⟨X5,hX5⟩:∃X5,X4++W2=X5:=⟨_,rfl⟩;have l5:X5.length≤2^41+2^38:=by rw[←hX5,List.length_append];omega
  have q7:=p135 X5 r.owners.length (by unfold i64;omega) (by omega);obtain⟨X6,hX6⟩:∃X6,X5++encI r.owners.length=X6:=⟨_,rfl⟩;have i8:=encI_len r.owners.length;have l6:X6.length≤2^41+2^38+10:=by rw[←hX6,List.length_append];omega
  rw[hX6]at q7;have q8:=λJ=>l54_1 r hr.owners hlo X6 (by omega) J;have i9:=flat40 encOwn_len r.owners;obtain⟨X7,hX7⟩:∃X7,X6++r.owners.flatMap encOwn=X7:=⟨_,rfl⟩;have l7:X7.length≤2^41+2^39:=by rw[←hX7,List.length_append];omega
  rw[hX7]at q8;have q9:=p135 X7 r.lics.length (by unfold i64;omega) (by omega);obtain⟨X8,hX8⟩:∃X8,X7++encI r.lics.length=X8:=⟨_,rfl⟩;have i10:=encI_len r.lics.length;have l8:X8.length≤2^41+2^39+10:=by rw[←hX8,List.length_append];omega
  rw[hX8]at q9;have q10:=λJ=>l54_2 r hr.lics hll X8 (by omega) J;have i11:=flat40 encLic_len r.lics;obtain⟨X9,hX9⟩:∃X9,X8++r.lics.flatMap encLic=X9:=⟨_,rfl⟩;have l9:X9.length≤2^42:=by rw[←hX9,List.length_append];omega
  rw[hX9]at q10;have hRX:X9=R:=by
   rw[←hR,←hX9,←hX8,←hX7,←hX6,←hX5,←hX4,←hX3,←hX2,←hX1,←hW,←hW2,←hY1];simp[encR]
  rw[hRX]at q10 l9;generalize encI r.file=F0 at*;simp[nums]at p2;have a1:X1.map (V.int .u8)++W.map (V.int .u8)=X2.map (V.int .u8):=by rw[←hX2,List.map_append]
  have a2:X4.map (V.int .u8)++W2.map (V.int .u8)=X5.map (V.int .u8):=by rw[←hX5,List.map_append]
  have b1:roomy (X1.length+W.length) 1=true:=by simp[roomy];omega
  have b2:roomy (X4.length+W2.length) 1=true:=by simp[roomy];omega
  simp only[Zga 8,awp_seq,awp_reg,awp_block,awp_cond,Zge 8 0,Zge 8 1,entry];simp[Rgt.V,Rgt.cs,nums]at p1 ⊢;refine⟨_,_,p1 _,?_⟩;simp[awp_skip,Zge 8 2,Zge 8 4];refine⟨_,_,p2 _,?_⟩;simp[awp_regD,Zge 8 5];refine⟨_,q0,?_⟩;simp;refine⟨_,q1,?_⟩;simp;refine⟨_,q2,?_⟩;simp[Zge 8 6];simp[nums]at q3;refine⟨_,_,(q3 _),?_⟩;simp[b1,a1,Zge 8 7];refine⟨_,q4,?_⟩;simp[Zge 8 8];refine awp_mono _ ?_ (q5 _);rintro e ⟨se,sh⟩ ⟨rfl,f1,f7,J2,hh⟩;simp only at f1 f7 hh;subst hh;simp[Zge 8 13,f1,f7,Rgt.row];simp[nums]at q6;refine⟨_,_,(q6 _),?_⟩;simp[b2,a2,Zge 8 14,f1];refine⟨_,q7,?_⟩;simp[Zge 8 15];refine awp_mono _ ?_ (q8 _);rintro e ⟨se,sh⟩ ⟨rfl,f1,f7,J3,hh⟩;simp only at f1 f7 hh;subst hh;simp[Zge 8 20,f1,f7,Rgt.row];refine⟨_,q9,?_⟩;simp[Zge 8 21];refine awp_mono _ ?_ (q10 _);rintro e ⟨se,sh⟩ ⟨rfl,f1,f7,J4,hh⟩;simp only at f1 f7 hh;subst hh;simp[Zge 8 26,f7,awp_ret,Zgr 8]
end Go.Va
