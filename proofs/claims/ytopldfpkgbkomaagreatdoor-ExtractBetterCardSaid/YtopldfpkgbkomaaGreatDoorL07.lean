/- Part 7 of the proof that ExtractBetter returns true for every input and leaves its arguments alone. Condition: the variable that the row lists holds what the text of the program lays. Texts joined here: VwGc VxN VyA VyB VyC VxM VxO VxA VxB VcM VwZa VwZb VxC VxD VyD VxE VwZc VxF VyE VyF VyG VyH VyI VaW VwDf VyJ VyO VyP VyQ VyN VaV VyS VzA VzB VyV VzC VyZ VzD VzE VwEa VwCc. -/
import Derived.KernelRfl
import Derived.Shelf.Spec.SlicesGrow
import Derived.Test.YtopldfpkgbkomaaGreatDoorL02
import Derived.Test.YtopldfpkgbkomaaGreatDoorL03
import Derived.Test.YtopldfpkgbkomaaGreatDoorL04
import Derived.Test.YtopldfpkgbkomaaGreatDoorL05
import Derived.Test.YtopldfpkgbkomaaGreatDoorL06
set_option linter.all false
set_option maxRecDepth 100000
namespace Go.Va
open Go.Proofs
theorem Wb {k:Int} (h:AC5 k=true):i64 k:=by simpa[AC5,i64]using h
theorem AHv:∀f args h x,Pr2 f args h=some x→∀t,OKT t h→FX f args (t.ins Tryz.prog GLx h) x.1 (t.ins Tryz.prog GLx h++x.2):=by
 intro f args h x hx t hk;unfold Pr2 at hx;split at hx
 ·rename_i hf;subst hf;split at hx
  ·simp only[ATm]at hx;subst hx;have ht:t=[]:=by
    cases t with
    |nil=>rfl
    |cons y t=>have:=hk.dead y.1 (by simp[Lp.has]);simp at this
   subst ht;exact p9
  ·cases hx
 ·split at hx
  ·rename_i hf;subst hf;split at hx
   ·rename_i r;split at hx
    ·rename_i m hr;have hr':=hk.get (P:=Tryz.prog) (GL:=GLx) hr (by simp);split at hx
     ·rename_i st ck hm;have hm':=hk.get (P:=Tryz.prog) (GL:=GLx) hm (by simp);simp only[ATm]at hx;subst hx;simpa using AIJ (ks:=[]) hr' hm' rfl (by simp) (by simp)
     ·rename_i k v st ck hm;have hm':=hk.get (P:=Tryz.prog) (GL:=GLx) hm (by simp);split at hx
      ·rename_i hk2;simp only[ATm]at hx;subst hx;simpa using AIJ (ks:=[k]) hr' hm' rfl (by simp) (by simpa using Wb hk2)
      ·cases hx
     ·cases hx
    ·cases hx
   ·cases hx
  ·cases hx
theorem p20:PX 20 [] [.bool true]:=GQ Ou AHv e20
theorem AI8 (fd:D) (fid:Nat) (caps:List D) (hf:FV fd fid caps) (all:List V) (m:Nat) (hm2:all.length=m) (hlen:m <2^40)
  (Q:AExit→St→Prop):∀(xs:List V) (k:Nat) (h:List Row) (r:Option Nat) (h':List Row),all.drop k=xs→k≤m→(∀x∈xs,∃cs,x= .agg cs∧cs.length=8)→IdxR Tryz.prog GLx fid caps xs h r h'→
  (r=none→∀e,AH e 0= .v (.list all)→Q (.exit 0) ⟨e,h'⟩)→(∀j,r=some j→∀e,AH e 4= .v (.int .i64 ((k+j:Nat):Int))→Q .ret ⟨e,h'⟩)→
  awp Tryz.prog GLx (.loop KU) Q ⟨[(0,.v (.list all)),(1,fd),(7,.v (.int .i64 m)),(8,.v (.int .i64 k))],h⟩:=by
 have hfn:=hf.nm;have hcp:=hf.cp;have hcp2:=hf.cp;simp only[D.copy]at hcp2;intro xs;induction xs with
 |nil=>
  rintro k h r h' hd hk hc ⟨rfl,rfl⟩ hn hs;have h0:m≤k:=by rw[←hm2];exact AUq.1 hd
  refine Af ?_;simp only[KU,AB,AA,AF,AE,QQ];have h2:¬(k:Int) <m:=by omega
  simp[h2,AM];exact hn rfl _ rfl
 |cons x xs ih=>
  rintro k h r h' hd hk hc ⟨b,h1,hb,hr⟩ hn hs;have hx:all[k]?=some x:=by have:=congrArg (·[0]?) hd;simpa using this
  have hkl:k <m:=by rw[←hm2];exact(ATp.1 hx).1
  have hd':all.drop (k+1)=xs:=by have:=congrArg (List.drop 1) hd;simpa using this
  have hw:IntKind.i64.wrap ((k:Int)+1)=k+1:=AJ;have hkl':(k:Int) <m:=by omega
  have hcx:=hc x (by simp);obtain⟨cs,rfl,hcs⟩:=hcx;have step:awp Tryz.prog GLx KU (λe s'=>match e with| .normal=>b=false∧s'=⟨[(0,.v (.list all)),(1,fd),(7,.v (.int .i64 m)),(8,.v (.int .i64 (k+1:Nat)))],h1⟩| .ret=>b=true∧AH s'.e 4= .v (.int .i64 k)∧s'.h=h1| .exit _=>False) ⟨[(0,.v (.list all)),(1,fd),(7,.v (.int .i64 m)),(8,.v (.int .i64 k))],h⟩:=by
   simp only[KU,AB,AA,AF,AE,QQ];simp[hkl',AD,AA,cG,cF,hx,hcp2,-Aj,hcs];have hcall:∀(K:St→Prop) (e:Env),AH e 11=fd→AH e 15= .v (.agg cs)→K ⟨BN e (some 16) (.v (.bool b)),h1⟩→Aj Tryz.prog GLx (some 16) (.t 11 false) [.t 15 false] K ⟨e,h⟩:=by
    intro K e e1 e2 hK;unfold Aj;have e3:(Opd.t 11 false).ev e=fd:=by simp only[Opd.ev,ATx,if_false,e1,hcp]
    rw[e3];split
    ·rename_i q;exact absurd rfl (hf.ny _)
    ·rename_i q;exact absurd rfl (hf.nt _ _)
    ·rw[hf.fn];refine⟨[.v (.bool b)],h1,?_,hK⟩;simpa[e2]using hb
   refine hcall _ _ ?_ ?_ ?_
   ·simp[hcp2]
   ·simp[AUG (AU8 hcs)]
   cases b with
   |false=>simp[AD,AE,AA,cD,hw,hcp2]
   |true=>simp[AE,AB,AA,AG,cE]
  cases b with
  |false=>
   obtain⟨r',hr1,rfl⟩:=hr;refine Aw (AX _ ?_ step) (ih (k+1) h1 r' h' hd' (by omega) (λy hy=>hc y (by simp[hy])) hr1 (λe=>hn (by rw[e];rfl)) ?_)
   ·intro e s' h;cases e with
    |normal=>exact h.2
    |exit i=>exact h.elim
    |ret=>cases h.1
   ·intro j e e1 e2;refine hs (j+1) (by rw[e];rfl) e1 ?_;rw[e2];congr 3;omega
  |true=>
   obtain⟨rfl,rfl⟩:=hr;refine Af (AX _ ?_ step);intro e s' h;cases e with
   |normal=>cases h.1
   |exit i=>exact h.elim
   |ret=>obtain⟨_,h2,h3⟩:=h;have:=hs 0 rfl s'.e h2;rw[←h3]at this;exact this
theorem APQ (fd:D) (fid:Nat) (caps:List D) (hf:FV fd fid caps) (xs:List V) (hlen:xs.length <2^40) (hc:∀x∈xs,∃cs,x= .agg cs∧cs.length=8) {h h':List Row} {r:Option Nat} (hr:IdxR Tryz.prog GLx fid caps xs h r h'):
  FX 307 [.v (.list xs),fd] h [.v (.int .i64 (CK r))] h':=by
 refine AN ARr rfl ?_;have hcp:=hf.cp;simp only[D.copy]at hcp;simp only[AMn,AB,AA,AF,cI,cH,AQ];simp[hcp];refine AI8 fd fid caps hf xs xs.length rfl hlen _ xs 0 h r h' rfl (AUR _) hc hr ?_ ?_
 ·rintro rfl e he;simp[AA,AG,cC,cJ,CK]
 ·rintro j rfl e he;simp at he;simp[he,cJ,CK]
theorem APo (fd:D) (fid:Nat) (caps:List D) (hf:FV fd fid caps) (xs:List V) (hlen:xs.length <2^40) (hc:∀x∈xs,∃cs,x= .agg cs∧cs.length=8) {h h':List Row} {r:Option Nat} (hr:IdxR Tryz.prog GLx fid caps xs h r h'):
  FX 256 [.v (.list xs),fd] h [.v (.bool r.isSome)] h':=by
 refine AN ASJ rfl ?_;have hcp:=hf.cp;simp only[D.copy]at hcp;have hnm:=hf.nm;have hp:=APQ fd fid caps hf xs hlen hc hr;have hge:=EY r;simp only[ANF,AB,AA,AF,gU,gT,AQ];simp[hcp,-D.norm];rw[hnm];refine⟨_,_,hp,?_⟩;simp[AG,AAn,hge]
theorem AJD (fd:D) (fid:Nat) (caps:List D) (hf:FV fd fid caps) (all:List V) (m:Nat) (hm2:all.length=m) (hlen:m <2^40)
  (Q:AExit→St→Prop):∀(xs:List V) (k:Nat) (h:List Row) (r:Option Nat) (h':List Row),all.drop k=xs→k≤m→(∀x∈xs,∃cs,x= .agg cs∧cs.length=3)→IdxR Tryz.prog GLx fid caps xs h r h'→
  (r=none→∀e,AH e 0= .v (.list all)→Q (.exit 0) ⟨e,h'⟩)→(∀j,r=some j→∀e,AH e 4= .v (.int .i64 ((k+j:Nat):Int))→Q .ret ⟨e,h'⟩)→
  awp Tryz.prog GLx (.loop KY) Q ⟨[(0,.v (.list all)),(1,fd),(7,.v (.int .i64 m)),(8,.v (.int .i64 k))],h⟩:=by
 have hfn:=hf.nm;have hcp:=hf.cp;have hcp2:=hf.cp;simp only[D.copy]at hcp2;intro xs;induction xs with
 |nil=>
  rintro k h r h' hd hk hc ⟨rfl,rfl⟩ hn hs;have h0:m≤k:=by rw[←hm2];exact AUq.1 hd
  refine Af ?_;simp only[KY,AB,AA,AF,AE,Qm];have h2:¬(k:Int) <m:=by omega
  simp[h2,AM];exact hn rfl _ rfl
 |cons x xs ih=>
  rintro k h r h' hd hk hc ⟨b,h1,hb,hr⟩ hn hs;have hx:all[k]?=some x:=by have:=congrArg (·[0]?) hd;simpa using this
  have hkl:k <m:=by rw[←hm2];exact(ATp.1 hx).1
  have hd':all.drop (k+1)=xs:=by have:=congrArg (List.drop 1) hd;simpa using this
  have hw:IntKind.i64.wrap ((k:Int)+1)=k+1:=AJ;have hkl':(k:Int) <m:=by omega
  have hcx:=hc x (by simp);obtain⟨cs,rfl,hcs⟩:=hcx;have step:awp Tryz.prog GLx KY (λe s'=>match e with| .normal=>b=false∧s'=⟨[(0,.v (.list all)),(1,fd),(7,.v (.int .i64 m)),(8,.v (.int .i64 (k+1:Nat)))],h1⟩| .ret=>b=true∧AH s'.e 4= .v (.int .i64 k)∧s'.h=h1| .exit _=>False) ⟨[(0,.v (.list all)),(1,fd),(7,.v (.int .i64 m)),(8,.v (.int .i64 k))],h⟩:=by
   simp only[KY,AB,AA,AF,AE,Qm];simp[hkl',AD,AA,gw,gv,hx,hcp2,-Aj,hcs];have hcall:∀(K:St→Prop) (e:Env),AH e 11=fd→AH e 15= .v (.agg cs)→K ⟨BN e (some 16) (.v (.bool b)),h1⟩→Aj Tryz.prog GLx (some 16) (.t 11 false) [.t 15 false] K ⟨e,h⟩:=by
    intro K e e1 e2 hK;unfold Aj;have e3:(Opd.t 11 false).ev e=fd:=by simp only[Opd.ev,ATx,if_false,e1,hcp]
    rw[e3];split
    ·rename_i q;exact absurd rfl (hf.ny _)
    ·rename_i q;exact absurd rfl (hf.nt _ _)
    ·rw[hf.fn];refine⟨[.v (.bool b)],h1,?_,hK⟩;simpa[e2]using hb
   refine hcall _ _ ?_ ?_ ?_
   ·simp[hcp2]
   ·simp[AUG (AU8 hcs)]
   cases b with
   |false=>simp[AD,AE,AA,gt,hw,hcp2]
   |true=>simp[AE,AB,AA,AG,gu]
  cases b with
  |false=>
   obtain⟨r',hr1,rfl⟩:=hr;refine Aw (AX _ ?_ step) (ih (k+1) h1 r' h' hd' (by omega) (λy hy=>hc y (by simp[hy])) hr1 (λe=>hn (by rw[e];rfl)) ?_)
   ·intro e s' h;cases e with
    |normal=>exact h.2
    |exit i=>exact h.elim
    |ret=>cases h.1
   ·intro j e e1 e2;refine hs (j+1) (by rw[e];rfl) e1 ?_;rw[e2];congr 3;omega
  |true=>
   obtain⟨rfl,rfl⟩:=hr;refine Af (AX _ ?_ step);intro e s' h;cases e with
   |normal=>cases h.1
   |exit i=>exact h.elim
   |ret=>obtain⟨_,h2,h3⟩:=h;have:=hs 0 rfl s'.e h2;rw[←h3]at this;exact this
theorem APr (fd:D) (fid:Nat) (caps:List D) (hf:FV fd fid caps) (xs:List V) (hlen:xs.length <2^40) (hc:∀x∈xs,∃cs,x= .agg cs∧cs.length=3) {h h':List Row} {r:Option Nat} (hr:IdxR Tryz.prog GLx fid caps xs h r h'):
  FX 253 [.v (.list xs),fd] h [.v (.int .i64 (CK r))] h':=by
 refine AN ASM rfl ?_;have hcp:=hf.cp;simp only[D.copy]at hcp;simp only[ANI,AB,AA,AF,hY,gz,AQ];simp[hcp];refine AJD fd fid caps hf xs xs.length rfl hlen _ xs 0 h r h' rfl (AUR _) hc hr ?_ ?_
 ·rintro rfl e he;simp[AA,AG,gp,iA,CK]
 ·rintro j rfl e he;simp at he;simp[he,iA,CK]
theorem ACl (fd:D) (fid:Nat) (caps:List D) (hf:FV fd fid caps) (xs:List V) (hlen:xs.length <2^40) (hc:∀x∈xs,∃cs,x= .agg cs∧cs.length=3) {h h':List Row} {r:Option Nat} (hr:IdxR Tryz.prog GLx fid caps xs h r h'):
  FX 153 [.v (.list xs),fd] h [.v (.bool r.isSome)] h':=by
 refine AN AS5 rfl ?_;have hcp:=hf.cp;simp only[D.copy]at hcp;have hnm:=hf.nm;have hp:=APr fd fid caps hf xs hlen hc hr;have hge:=EY r;simp only[AOa,AB,AA,AF,oq,oo,AQ];simp[hcp,-D.norm];rw[hnm];refine⟨_,_,hp,?_⟩;simp[AG,ABZ,hge]
theorem AJC (fd:D) (fid:Nat) (caps:List D) (hf:FV fd fid caps) (all:List V) (m:Nat) (hm2:all.length=m) (hlen:m <2^40)
  (Q:AExit→St→Prop):∀(xs:List V) (k:Nat) (h:List Row) (r:Option Nat) (h':List Row),all.drop k=xs→k≤m→(∀x∈xs,∃cs,x= .agg cs∧cs.length=3)→IdxR Tryz.prog GLx fid caps xs h r h'→
  (r=none→∀e,AH e 0= .v (.list all)→Q (.exit 0) ⟨e,h'⟩)→(∀j,r=some j→∀e,AH e 4= .v (.int .i64 ((k+j:Nat):Int))→Q .ret ⟨e,h'⟩)→
  awp Tryz.prog GLx (.loop KX) Q ⟨[(0,.v (.list all)),(1,fd),(7,.v (.int .i64 m)),(8,.v (.int .i64 k))],h⟩:=by
 have hfn:=hf.nm;have hcp:=hf.cp;have hcp2:=hf.cp;simp only[D.copy]at hcp2;intro xs;induction xs with
 |nil=>
  rintro k h r h' hd hk hc ⟨rfl,rfl⟩ hn hs;have h0:m≤k:=by rw[←hm2];exact AUq.1 hd
  refine Af ?_;simp only[KX,AB,AA,AF,AE,Ql];have h2:¬(k:Int) <m:=by omega
  simp[h2,AM];exact hn rfl _ rfl
 |cons x xs ih=>
  rintro k h r h' hd hk hc ⟨b,h1,hb,hr⟩ hn hs;have hx:all[k]?=some x:=by have:=congrArg (·[0]?) hd;simpa using this
  have hkl:k <m:=by rw[←hm2];exact(ATp.1 hx).1
  have hd':all.drop (k+1)=xs:=by have:=congrArg (List.drop 1) hd;simpa using this
  have hw:IntKind.i64.wrap ((k:Int)+1)=k+1:=AJ;have hkl':(k:Int) <m:=by omega
  have hcx:=hc x (by simp);obtain⟨cs,rfl,hcs⟩:=hcx;have step:awp Tryz.prog GLx KX (λe s'=>match e with| .normal=>b=false∧s'=⟨[(0,.v (.list all)),(1,fd),(7,.v (.int .i64 m)),(8,.v (.int .i64 (k+1:Nat)))],h1⟩| .ret=>b=true∧AH s'.e 4= .v (.int .i64 k)∧s'.h=h1| .exit _=>False) ⟨[(0,.v (.list all)),(1,fd),(7,.v (.int .i64 m)),(8,.v (.int .i64 k))],h⟩:=by
   simp only[KX,AB,AA,AF,AE,Ql];simp[hkl',AD,AA,gg,ge,hx,hcp2,-Aj,hcs];have hcall:∀(K:St→Prop) (e:Env),AH e 11=fd→AH e 15= .v (.agg cs)→K ⟨BN e (some 16) (.v (.bool b)),h1⟩→Aj Tryz.prog GLx (some 16) (.t 11 false) [.t 15 false] K ⟨e,h⟩:=by
    intro K e e1 e2 hK;unfold Aj;have e3:(Opd.t 11 false).ev e=fd:=by simp only[Opd.ev,ATx,if_false,e1,hcp]
    rw[e3];split
    ·rename_i q;exact absurd rfl (hf.ny _)
    ·rename_i q;exact absurd rfl (hf.nt _ _)
    ·rw[hf.fn];refine⟨[.v (.bool b)],h1,?_,hK⟩;simpa[e2]using hb
   refine hcall _ _ ?_ ?_ ?_
   ·simp[hcp2]
   ·simp[AUG (AU8 hcs)]
   cases b with
   |false=>simp[AD,AE,AA,gY,hw,hcp2]
   |true=>simp[AE,AB,AA,AG,gZ]
  cases b with
  |false=>
   obtain⟨r',hr1,rfl⟩:=hr;refine Aw (AX _ ?_ step) (ih (k+1) h1 r' h' hd' (by omega) (λy hy=>hc y (by simp[hy])) hr1 (λe=>hn (by rw[e];rfl)) ?_)
   ·intro e s' h;cases e with
    |normal=>exact h.2
    |exit i=>exact h.elim
    |ret=>cases h.1
   ·intro j e e1 e2;refine hs (j+1) (by rw[e];rfl) e1 ?_;rw[e2];congr 3;omega
  |true=>
   obtain⟨rfl,rfl⟩:=hr;refine Af (AX _ ?_ step);intro e s' h;cases e with
   |normal=>cases h.1
   |exit i=>exact h.elim
   |ret=>obtain⟨_,h2,h3⟩:=h;have:=hs 0 rfl s'.e h2;rw[←h3]at this;exact this
theorem APq (fd:D) (fid:Nat) (caps:List D) (hf:FV fd fid caps) (xs:List V) (hlen:xs.length <2^40) (hc:∀x∈xs,∃cs,x= .agg cs∧cs.length=3) {h h':List Row} {r:Option Nat} (hr:IdxR Tryz.prog GLx fid caps xs h r h'):
  FX 254 [.v (.list xs),fd] h [.v (.int .i64 (CK r))] h':=by
 refine AN ASL rfl ?_;have hcp:=hf.cp;simp only[D.copy]at hcp;simp only[ANH,AB,AA,AF,gl,gj,AQ];simp[hcp];refine AJC fd fid caps hf xs xs.length rfl hlen _ xs 0 h r h' rfl (AUR _) hc hr ?_ ?_
 ·rintro rfl e he;simp[AA,AG,gX,gm,CK]
 ·rintro j rfl e he;simp at he;simp[he,gm,CK]
theorem AJA (fd:D) (fid:Nat) (caps:List D) (hf:FV fd fid caps) (all:List V) (m:Nat) (hm2:all.length=m) (hlen:m <2^40)
  (Q:AExit→St→Prop):∀(xs:List V) (k:Nat) (h:List Row) (r:Option Nat) (h':List Row),all.drop k=xs→k≤m→(∀x∈xs,∃cs,x= .agg cs∧cs.length=8)→IdxR Tryz.prog GLx fid caps xs h r h'→
  (r=none→∀e,AH e 0= .v (.list all)→Q (.exit 0) ⟨e,h'⟩)→(∀j,r=some j→∀e,AH e 4= .v (.int .i64 ((k+j:Nat):Int))→Q .ret ⟨e,h'⟩)→
  awp Tryz.prog GLx (.loop KV) Q ⟨[(0,.v (.list all)),(1,fd),(7,.v (.int .i64 m)),(8,.v (.int .i64 k))],h⟩:=by
 have hfn:=hf.nm;have hcp:=hf.cp;have hcp2:=hf.cp;simp only[D.copy]at hcp2;intro xs;induction xs with
 |nil=>
  rintro k h r h' hd hk hc ⟨rfl,rfl⟩ hn hs;have h0:m≤k:=by rw[←hm2];exact AUq.1 hd
  refine Af ?_;simp only[KV,AB,AA,AF,AE,Qd];have h2:¬(k:Int) <m:=by omega
  simp[h2,AM];exact hn rfl _ rfl
 |cons x xs ih=>
  rintro k h r h' hd hk hc ⟨b,h1,hb,hr⟩ hn hs;have hx:all[k]?=some x:=by have:=congrArg (·[0]?) hd;simpa using this
  have hkl:k <m:=by rw[←hm2];exact(ATp.1 hx).1
  have hd':all.drop (k+1)=xs:=by have:=congrArg (List.drop 1) hd;simpa using this
  have hw:IntKind.i64.wrap ((k:Int)+1)=k+1:=AJ;have hkl':(k:Int) <m:=by omega
  have hcx:=hc x (by simp);obtain⟨cs,rfl,hcs⟩:=hcx;have step:awp Tryz.prog GLx KV (λe s'=>match e with| .normal=>b=false∧s'=⟨[(0,.v (.list all)),(1,fd),(7,.v (.int .i64 m)),(8,.v (.int .i64 (k+1:Nat)))],h1⟩| .ret=>b=true∧AH s'.e 4= .v (.int .i64 k)∧s'.h=h1| .exit _=>False) ⟨[(0,.v (.list all)),(1,fd),(7,.v (.int .i64 m)),(8,.v (.int .i64 k))],h⟩:=by
   simp only[KV,AB,AA,AF,AE,Qd];simp[hkl',AD,AA,fM,fL,hx,hcp2,-Aj,hcs];have hcall:∀(K:St→Prop) (e:Env),AH e 11=fd→AH e 15= .v (.agg cs)→K ⟨BN e (some 16) (.v (.bool b)),h1⟩→Aj Tryz.prog GLx (some 16) (.t 11 false) [.t 15 false] K ⟨e,h⟩:=by
    intro K e e1 e2 hK;unfold Aj;have e3:(Opd.t 11 false).ev e=fd:=by simp only[Opd.ev,ATx,if_false,e1,hcp]
    rw[e3];split
    ·rename_i q;exact absurd rfl (hf.ny _)
    ·rename_i q;exact absurd rfl (hf.nt _ _)
    ·rw[hf.fn];refine⟨[.v (.bool b)],h1,?_,hK⟩;simpa[e2]using hb
   refine hcall _ _ ?_ ?_ ?_
   ·simp[hcp2]
   ·simp[AUG (AU8 hcs)]
   cases b with
   |false=>simp[AD,AE,AA,fJ,hw,hcp2]
   |true=>simp[AE,AB,AA,AG,fK]
  cases b with
  |false=>
   obtain⟨r',hr1,rfl⟩:=hr;refine Aw (AX _ ?_ step) (ih (k+1) h1 r' h' hd' (by omega) (λy hy=>hc y (by simp[hy])) hr1 (λe=>hn (by rw[e];rfl)) ?_)
   ·intro e s' h;cases e with
    |normal=>exact h.2
    |exit i=>exact h.elim
    |ret=>cases h.1
   ·intro j e e1 e2;refine hs (j+1) (by rw[e];rfl) e1 ?_;rw[e2];congr 3;omega
  |true=>
   obtain⟨rfl,rfl⟩:=hr;refine Af (AX _ ?_ step);intro e s' h;cases e with
   |normal=>cases h.1
   |exit i=>exact h.elim
   |ret=>obtain⟨_,h2,h3⟩:=h;have:=hs 0 rfl s'.e h2;rw[←h3]at this;exact this
theorem APi (fd:D) (fid:Nat) (caps:List D) (hf:FV fd fid caps) (xs:List V) (hlen:xs.length <2^40) (hc:∀x∈xs,∃cs,x= .agg cs∧cs.length=8) {h h':List Row} {r:Option Nat} (hr:IdxR Tryz.prog GLx fid caps xs h r h'):
  FX 275 [.v (.list xs),fd] h [.v (.int .i64 (CK r))] h':=by
 refine AN ASC rfl ?_;have hcp:=hf.cp;simp only[D.copy]at hcp;simp only[AM7,AB,AA,AF,fO,fN,AQ];simp[hcp];refine AJA fd fid caps hf xs xs.length rfl hlen _ xs 0 h r h' rfl (AUR _) hc hr ?_ ?_
 ·rintro rfl e he;simp[AA,AG,fI,fP,CK]
 ·rintro j rfl e he;simp at he;simp[he,fP,CK]
structure Val where
 a:Int
 n:Int
 d:Int
def Val.V (x:Val):V:= .agg [.int .i64 x.a,.int .i64 x.n,.int .i64 x.d]
inductive Th where
 |mk (cs:List Int) (vs:List Val) (ps:List Th)
def Th.cs:Th→List Int| .mk c _ _=>c
def Th.vs:Th→List Val| .mk _ v _=>v
def Th.ps:Th→List Th| .mk _ _ p=>p
theorem Th.ind {p:Th→Prop} (h:∀cs vs ps,(∀k∈ps,p k)→p (.mk cs vs ps)) (f:Th):p f:=
 Th.rec (motive_1:=p) (motive_2:=λl=>∀k∈l,p k) (λcs vs ps ih=>h cs vs ps ih) (λk hk=>by cases hk)
  (λx xs hx hxs k hk=>by cases hk with|head=>exact hx|tail _ hk=>exact hxs k hk) f
mutual
def Th.V:Th→V| .mk cs vs ps=> .agg [AL .i64 cs,.list (vs.map Val.V),.list (Th.Vs ps)]
def Th.Vs:List Th→List V|[]=>[]|k::ks=>k.V::Th.Vs ks
end
theorem Th.Vs_map:∀l,Th.Vs l=l.map Th.V
 |[]=>rfl
 |k::ks=>by simp[Th.Vs,Th.Vs_map ks]
theorem Th.V_eq (cs:List Int) (vs:List Val) (ps:List Th):(Th.mk cs vs ps).V= .agg [AL .i64 cs,.list (vs.map Val.V),.list (ps.map Th.V)]:=by
 simp[Th.V,Th.Vs_map]
theorem Th.V3 (t:Th):∃cs,t.V= .agg cs∧cs.length=3:=by
 cases t;exact⟨_,Th.V_eq _ _ _,rfl⟩
def Val.ok (x:Val):Prop:=i64 x.a∧i64 x.n∧i64 x.d
inductive Th.ok:Th→Prop
 |mk {cs vs ps} (h1:cs.length≤2^30) (h2:vs.length≤2^30) (h3:ps.length≤2^30) (h4:∀x∈vs,Val.ok x) (h5:∀p∈ps,Th.ok p):Th.ok (.mk cs vs ps)
mutual
def Th.nd:Th→Int→Int→Int| .mk _ _ ps,lv,lf=>if 8 <lv∨lf <1 then -1 else Th.nds ps (lv+1) (lf-1)
def Th.nds:List Th→Int→Int→Int|[],_,lf=>lf|k::ks,lv,lf=>if k.nd lv lf <0 then -1 else Th.nds ks lv (k.nd lv lf)
end
theorem ACw:∀(t:Th) (lv lf:Int),0≤lf→t.nd lv lf≤lf:=by
 refine Th.ind λcs vs ps ih=>?_;intro lv lf h0;rw[Th.nd];split
 ·omega
 ·have:∀(l:List Th),(∀x∈l,∀(lv lf:Int),0≤lf→x.nd lv lf≤lf)→∀lv lf:Int,0≤lf→Th.nds l lv lf≤lf:=by
   intro l;induction l with
   |nil=>intro _ lv lf _;simp[Th.nds]
   |cons x xs ihx=>
    intro h lv lf h1;rw[Th.nds];split
    ·omega
    ·have a1:=h x (by simp) lv lf h1;have a2:=ihx (λy hy=>h y (by simp[hy])) lv (x.nd lv lf) (by omega);omega
  have:=this ps ih (lv+1) (lf-1) (by omega);omega
theorem Eg {α:Type} {l:List α} {k:Nat} {x:α} (h:l[k]?=some x):l.drop k=x::l.drop (k+1):=by
 obtain⟨h1,h2⟩:=ATp.1 h;rw[AU9 h1,h2]
theorem ARH (lv:Int) (h1:0≤lv∧lv≤8) (all:List Th) (hn:all.length≤2^30) (Q:AExit→St→Prop)
  (ih:∀p∈all,∀(lf:Int),0≤lf→lf≤2^40→PX 247 [p.V,.int .i64 (lv+1),.int .i64 lf] [.int .i64 (p.nd (lv+1) lf)]) (lf:Int) (J:List Row) (h2:0≤lf) (h3:lf≤2^40) (R:Int) (hR:Th.nds all (lv+1) lf=R)
  (hr:∀e h,R= -1→AH e 6= .v (.int .i64 (-1))→Q .ret ⟨e,h⟩) (hs:∀e h,AH e 2= .v (.int .i64 R)→Q (.exit 0) ⟨e,h⟩):
  awp Tryz.prog GLx (.loop Qw) Q ⟨[(1,.v (.int .i64 lv)),(2,.v (.int .i64 lf)),(18,.v (.list (all.map Th.V))),(19,.v (.int .i64 all.length)),(20,.v (.int .i64 (0:Nat)))],J⟩:=by
 refine Ae all.length (λk s=>∃lf J,s=⟨[(1,.v (.int .i64 lv)),(2,.v (.int .i64 lf)),(18,.v (.list (all.map Th.V))),(19,.v (.int .i64 all.length)),(20,.v (.int .i64 k))],J⟩∧0≤lf∧lf≤2^40∧Th.nds (all.drop k) (lv+1) lf=R)
  ⟨lf,J,rfl,h2,h3,hR⟩ ?_
 rintro k s hk ⟨lf,J,rfl,h2,h3,hR⟩;simp only[Qw,AB,AA,AF,AE,ir];simp;by_cases hkl:k <all.length
 ·obtain⟨x,hx⟩:∃x,all[k]?=some x:=⟨_,ATo hkl⟩;have hw:IntKind.i64.wrap ((k:Int)+1)=k+1:=AJ;have hw2:IntKind.i64.wrap (lv+1)=lv+1:=AJ;have hp:=(ih x (ATq hx) lf h2 h3).fsp;have hle:=ACw x (lv+1) lf h2;rw[Eg hx,Th.nds]at hR;generalize x.nd (lv+1) lf=N at*;obtain⟨cs,vs,ps⟩:=x;simp[Th.V_eq,AL]at hp;rw[if_pos (by omega),AD];simp only[AA,iq,ip];simp[hx,Th.V_eq,hw2,AL,AO];refine⟨_,_,hp _,?_⟩;by_cases hN:N <0
  ·simp[Qu,hN,AB,AA,io,AG];rw[if_pos hN]at hR;exact hr _ _ hR.symm rfl
  ·rw[if_neg hN]at hR;simp[Qu,hN,Tk,AD,hw,hkl,hR];omega
 ·have hk2:k=all.length:=by omega
  subst hk2;rw[if_neg (by omega),AM];refine hs _ _ ?_;simp[Th.nds]at hR;simp[hR]
theorem APv:∀(t:Th) (lv lf:Int),t.ok→0≤lv→lv≤2^40→0≤lf→lf≤2^40→PX 247 [t.V,.int .i64 lv,.int .i64 lf] [.int .i64 (t.nd lv lf)]:=by
 refine Th.ind λcs vs ps ih lv lf hok a1 a2 a3 a4=>?_;obtain⟨ok1,ok2,ok3,ok4,ok5⟩:=hok;refine AK ASR rfl ?_;rw[Th.nd];simp only[ANP,AB,AA,AF,AE,iy,iw,AY];simp[Th.V_eq];by_cases b1:8 <lv
 ·simp[b1,AB,AA,Qv,AG,Od]
 ·by_cases b2:lf <1
  ·simp[b1,b2,AB,AA,Qv,AG,Od]
  ·have hw:IntKind.i64.wrap (lf-1)=lf-1:=AJ;simp[b1,b2,AD,iv,iu,hw];refine ARH lv ⟨a1,by omega⟩ ps ok3 _ (λp hp lf h h'=>ih p hp (lv+1) lf (ok5 p hp) (by omega) (by omega) h h') (lf-1) _ (by omega) (by omega) _ rfl ?_ ?_
   ·intro e h hR h6;simp[h6,hR,Od]
   ·intro e h h2;simp[AB,AA,Tj,h2,AG,Od]
def WV (t:Th):Bool:=decide (0≤t.nd 1 96)
theorem AQm (t:Th) (h:t.ok):PX 145 [t.V] [.bool (WV t)]:=by
 refine AK ATB rfl ?_;have hp:=(APv t 1 96 h (by decide) (by decide) (by decide) (by decide)).fsp;unfold WV;generalize t.nd 1 96=N at*;obtain⟨cs,vs,ps⟩:=t;simp only[AOi,AB,AA,pR,pQ,AY];simp[Th.V_eq,AL]at hp ⊢;refine⟨_,_,hp _,?_⟩;simp[AG,ABl]
def Gf (l:List Int) (m:Int) (k:Nat):Bool:=decide (l.getD k 0 <0∨m≤l.getD k 0∨(0 <k∧l.getD k 0≤l.getD (k-1) 0))
def JP (l:List Int) (m:Int):Bool:= !(List.range l.length).any (Gf l m)
theorem AIP (l:List Int) (m:Int) (hn:l.length≤2^40):PX 250 [AL .i64 l,.int .i64 m] [.bool (JP l m)]:=by
 refine AK ASO rfl ?_;simp only[ANK,AB,AA,AF,iV,iU,AY];simp[AL];refine BK l.length (λk=>⟨[(0,.v (AL .i64 l)),(1,.v (.int .i64 m)),(7,.v (AL .i64 l)),(8,.v (.int .i64 l.length)),(9,.v (.int .i64 k))],[]⟩) (λk=>∀j <k,Gf l m j=false) (by simp[AL]) (by omega) ?_;intro k hk hI;simp only[iW,AB,AA,AF,AE,iT];simp[AL];by_cases h1:k <l.length
 ·obtain⟨x,hx⟩:∃x,l[k]?=some x:=⟨_,ATo h1⟩;have hw:IntKind.i64.wrap ((k:Int)+1)=k+1:=AJ;have hb:Gf l m k=true↔(x <0∨m≤x∨(0 <k∧x≤l.getD (k-1) 0)):=by unfold Gf;rw[decide_eq_true_iff];simp[List.getD,hx]
  have hf:¬(x <0∨m≤x∨(0 <k∧x≤l.getD (k-1) 0))→Gf l m k=false:=λh=>by
   cases h':Gf l m k with
   |true=>exact absurd (hb.1 h') h
   |false=>rfl
  have ret:Gf l m k=true→JP l m=false:=λh=>by unfold JP;rw[Ec h1 h];rfl
  have go:Gf l m k=false→∀j <k+1,Gf l m j=false:=λh j hj=>by
   rcases AUD j k with h'|h'
   ·exact hI j h'
   ·have:j=k:=by omega
    subst this;exact h
  rw[if_pos (by omega),AD];simp only[AA,iS,iR];simp[hx];by_cases b1:x <0
  ·have hbt:Gf l m k=true:=hb.2 (.inl b1);simp[b1,AB,AA,AG,Mi,Oc,ret hbt]
  ·by_cases b2:m≤x
   ·have hbt:Gf l m k=true:=hb.2 (.inr (.inl b2));simp[b1,b2,AB,AA,AG,Mi,Oc,ret hbt]
   ·cases k with
    |zero=>
     have hbf:Gf l m 0=false:=hf (by omega);have hw1:IntKind.i64.wrap 1=1:=rfl;simp[hw1,b1,b2,AD,AA,Qp,hw,h1,go hbf]
    |succ j=>
     have hw3:IntKind.i64.wrap (j:Int)=j:=AJ;have hpos:(0:Int) <(j:Int)+1:=by omega
     obtain⟨y,hy⟩:∃y,l[j]?=some y:=⟨_,ATo (by omega)⟩;simp only[AUs,AVl,Int.cast_ofNat_Int]at hw;by_cases b3:x≤y
     ·have hbt:Gf l m (j+1)=true:=hb.2 (.inr (.inr ⟨by omega,by simp[List.getD,hy,b3]⟩));simp[b1,b2,b3,hpos,hw3,hy,AB,AA,AG,Mi,Oc,ret hbt]
     ·have hbf:Gf l m (j+1)=false:=hf (by simp[List.getD,hy];omega);simp[b1,b2,b3,hpos,hw3,hy,AD,AA,Qp,hw,h1];exact go hbf
 ·have hk2:k=l.length:=by omega
  subst hk2;rw[if_neg (by omega),AM];simp[AA,AG,AB,iQ,Oc];unfold JP;rw[GD hI];rfl
def EQ (x:Val):Bool:=okR x.n x.d&&decide (x.d≤65536)
mutual
def Th.formed:Th→Bool| .mk cs vs ps=>vs.all EQ&&(JP cs 64&&(JP (vs.map Val.a) 32&&Th.formeds ps))
def Th.formeds:List Th→Bool|[]=>true|k::ks=>k.formed&&Th.formeds ks
end
theorem Fz:∀l,Th.formeds l=l.all Th.formed
 |[]=>rfl
 |k::ks=>by simp[Th.formeds,Fz ks]
theorem AIQ (t:Th) (h:PX 146 [t.V] [.bool t.formed]):PX 249 [t.V] [.bool (!t.formed)]:=by
 refine AK ASP rfl ?_;have hp:=h.fsp;generalize t.formed=R at*;obtain⟨cs,vs,ps⟩:=t;simp only[ANN,AB,AA,ie,ic,AY];simp[Th.V_eq,AL]at hp ⊢;refine⟨_,_,hp _,?_⟩;simp[AG,AAx]
theorem ARQ (cs:List Int) (vs:List Val) (ps:List Th) (hn:vs.length≤2^30) (hv:∀x∈vs,Val.ok x) (Q:AExit→St→Prop)
  (hr:∀e h,vs.all EQ=false→AH e 2= .v (.bool false)→Q .ret ⟨e,h⟩)
  (hs:∀J,vs.all EQ=true→Q (.exit 0) ⟨[(1,.ref 0 0),(3,.own 3 1 ((vs.map Val.a).map (.int .i64))),(8,.v (.list (vs.map Val.V))),(9,.v (.int .i64 vs.length)),(10,.v (.int .i64 vs.length)),(11,.v (.bool false))],
   .cells [.v (AL .i64 cs),.v (.list (vs.map Val.V)),.v (.list (ps.map Th.V))]::J⟩):
  awp Tryz.prog GLx (.loop RQ) Q ⟨[(1,.ref 0 0),(3,.own 3 1 []),(8,.v (.list (vs.map Val.V))),(9,.v (.int .i64 vs.length)),(10,.v (.int .i64 (0:Nat)))],
   [.cells [.v (AL .i64 cs),.v (.list (vs.map Val.V)),.v (.list (ps.map Th.V))]]⟩:=by
 refine Ae vs.length (λk s=>∃J,s=⟨[(1,.ref 0 0),(3,.own 3 1 (((vs.take k).map Val.a).map (.int .i64))),(8,.v (.list (vs.map Val.V))),(9,.v (.int .i64 vs.length)),(10,.v (.int .i64 k))],
   .cells [.v (AL .i64 cs),.v (.list (vs.map Val.V)),.v (.list (ps.map Th.V))]::J⟩∧(vs.take k).all EQ=true) ⟨[],by simp,rfl⟩ ?_
 rintro k s hk ⟨J,rfl,hI⟩;simp only[RQ,AB,AA,AF,AE,pM];simp;by_cases hkl:k <vs.length
 ·obtain⟨x,hx⟩:∃x,vs[k]?=some x:=⟨_,ATo hkl⟩;have hxm:=ATq hx;have hw:IntKind.i64.wrap ((k:Int)+1)=k+1:=AJ;have hok:=hv x hxm;have hp:=(tX x.n x.d hok.2.1 hok.2.2).fsp;have hroom:Ah (k+1) 8=true:=by simp[Ah];omega
  have hm:min k vs.length=k:=by omega
  have ht:vs.take (k+1)=vs.take k++[x]:=by rw[AUE,hx];rfl
  have hall:(vs.take (k+1)).all EQ=EQ x:=by rw[ht,List.all_append,hI];simp
  have hbad:EQ x=false→vs.all EQ=false:=λh=>by
   cases h':vs.all EQ with
   |false=>rfl
   |true=>exact absurd ((AT4.1 h' x hxm).symm.trans h) (by decide)
  have hv:EQ x=(okR x.n x.d&&decide (x.d≤65536)):=rfl;rw[if_pos (by omega),AD];simp only[AA,pK];simp[hx,Val.V,AO];simp only[pJ,pI];simp[hm,hroom];simp[A5]at hp;cases h1:okR x.n x.d with
  |false=>
   simp[h1]at hp;refine⟨_,_,hp _,?_⟩;simp[AB,AA,RP,AG];exact hr _ _ (hbad (by rw[hv,h1];rfl)) rfl
  |true=>
   simp[h1]at hp;refine⟨_,_,hp _,?_⟩;by_cases h2:65536 <x.d
   ·simp[h2,AB,AA,RP,AG];exact hr _ _ (hbad (by rw[hv,h1];simp;omega)) rfl
   ·have h3:EQ x=true:=by rw[hv,h1];simp;omega
    rw[h3]at hall;simp[h2,AD,pH,hw,hkl];rw[ht]at hall;simp at hall;exact⟨by simp[AUE,hx],by rw[ht];intro y hy;rcases AT7.1 hy with h|h;exact hall.1 y h;rw[ATy.1 h];exact hall.2⟩
 ·have hk2:k=vs.length:=by omega
  subst hk2;rw[if_neg (by omega),AM];rw[AUT]at hI;have:=hs J hI;have e:List.take vs.length (List.map (V.int .i64 ∘ Val.a) vs)=List.map (V.int .i64 ∘ Val.a) vs:=AUG (by simp);simpa[e]using this
theorem AQl:∀(t:Th),t.ok→PX 146 [t.V] [.bool t.formed]:=by
 refine Th.ind λcs vs ps ih hok=>?_;obtain⟨ok1,ok2,ok3,ok4,ok5⟩:=hok;refine AK ATA rfl ?_;have hidx:IdxR Tryz.prog GLx 249 [] (ps.map Th.V) [] (ps.findIdx? λx=> !x.formed) []:=
  IdxR.map λx hx=>(AIQ x (ih x hx (ok5 x hx))).fsp []
 have hidx2:=λh=>IdxR.map (P:=Tryz.prog) (GL:=GLx) (fid:=249) (caps:=[]) (f:=Th.V) (p:=λx=> !x.formed) (l:=ps) (h:=h) λx hx=>(AIQ x (ih x hx (ok5 x hx))).fsp h;have hcf:=λh=>ACl (.v (.func 249 [])) 249 [] (FV.v 249 []) (ps.map Th.V) (by simp;omega) (by
  intro x hx;obtain⟨y,_,rfl⟩:=ATw.1 hx;exact y.V3) (hidx2 h)
 simp only[Ed]at hcf;have q1:=(AIP cs 64 (by omega)).fsp;have q2:=(AIP (vs.map Val.a) 32 (by simp;omega)).fsp;have hl:=λQ=>ARQ cs vs ps ok2 ok4 Q;rw[Th.formed,Fz];generalize JP cs 64=A at*;generalize JP (vs.map Val.a) 32=B at*;generalize ps.all Th.formed=C at*;generalize vs.all EQ=D at*;simp only[AOh,AB,AA,AF,pP,pO,pN,AY];simp[Th.V_eq];refine hl _ ?_ ?_
 ·rintro e h rfl h2;simp[h2,Ok]
 ·rintro J rfl;simp[pG];simp only[UX];simp[AL]at q1 q2 ⊢;refine⟨_,_,q1 _,?_⟩;cases A with
  |false=>simp[AG,Ok]
  |true=>
   simp;refine⟨_,_,q2 _,?_⟩;cases B with
   |false=>simp[AG,Ok]
   |true=>
    simp at hcf ⊢;refine⟨_,_,(hcf _),?_⟩;simp[AG,Ok]
def thE (t:Th):Int:=if WV t then (if t.formed then 0 else 1) else 4
theorem p67 (t:Th) (h:t.ok):PX 67 [t.V] [.int .i64 (thE t)]:=by
 refine AK k67 rfl ?_;have q1:=(AQm t h).fsp;have q2:=(AQl t h).fsp;unfold thE;generalize WV t=A at*;generalize t.formed=B at*;obtain⟨cs,vs,ps⟩:=t;simp only[c67,AB,AA,AF,AE,xh,xd,AY];simp[Th.V_eq,AL]at q1 q2 ⊢;refine⟨_,_,q1 _,?_⟩;cases A with
 |false=>simp[AB,AA,xY,AG,uJ]
 |true=>
  simp[AB,AA,AE,xX];refine⟨_,_,q2 _,?_⟩;cases B with
  |false=>simp[AB,AA,xW,AG,uJ]
  |true=>simp[AD,xV,AG,uJ]
theorem APp (x:Val) (n:Int) (h:List Row) (q:Nat) (hq:h[q]?=some (.cells [.v (.int .i64 n)])) (hl:Low h):FX 255 [.v x.V,.ref q 0] h [.v (.bool (x.a==n))] h:=by
 refine As ASK rfl (ATs _) hl (by simp[D.lt]) ?_;have hq':=AS [.cells [.v (.int .i64 x.a),.v (.int .i64 x.n),.v (.int .i64 x.d)]] hq;simp[ANG,awp,gW,gV,AAo,AQ,Val.V,hq']
def U2 (t:Th) (n:Int):Option Val:=t.vs.find? λx=>x.a==n
def Jk (t:Th) (n:Int):Int×Int:=match U2 t n with|some x=>(x.n,x.d)|none=>(0,0)
theorem KE {α:Type} (p:α→Bool) (l:List α):(l.findIdx? p=none∧l.find? p=none)∨∃i x,l.findIdx? p=some i∧l[i]?=some x∧l.find? p=some x:=by
 cases h:l.findIdx? p with
 |none=>
  refine .inl ⟨rfl,?_⟩;rw[List.find?_eq_none];rw[AWe]at h;intro x hx;simp[h x hx]
 |some i=>
  obtain⟨h1,h2,h3⟩:=AWM.1 h;refine .inr ⟨i,l[i],rfl,ATo h1,?_⟩;rw[List.find?_eq_some_iff_getElem];exact⟨h2,i,h1,rfl,λj hj=>by simpa using h3 j hj⟩
theorem AQd (t:Th) (n:Int) (hok:t.ok):PX 158 [t.V,.int .i64 n] [A5 (Jk t n).1 (Jk t n).2,.bool (U2 t n).isSome]:=by
 obtain⟨cs,vs,ps⟩:=t;obtain⟨ok1,ok2,ok3,ok4,ok5⟩:=hok;have e1:U2 (.mk cs vs ps) n=vs.find? λx=>x.a==n:=rfl;unfold Jk;rw[e1];refine AK AS0 rfl ?_;have hidx:=λh (hh:h[1]?=some (.cells [.v (.int .i64 n)])) (hl:Low h)=>IdxR.map (P:=Tryz.prog) (GL:=GLx) (fid:=255) (caps:=[.ref 1 0]) (f:=Val.V) (p:=λx=>x.a==n) (l:=vs) (h:=h) λx _=>APp x n h 1 hh hl;have hcf:=λh hh hl=>APq (.func 255 [.ref 1 0]) 255 [.ref 1 0] (FV.r 255 1 0 []) (vs.map Val.V) (by simp;omega) (by
  intro x hx;obtain⟨y,_,rfl⟩:=ATw.1 hx;exact⟨_,rfl,rfl⟩) (hidx h hh hl)
 have hf:=KE (λx:Val=>x.a==n) vs;simp only[AOW,AB,AA,AF,AE,oZ,oY,AY];simp[Th.V_eq];generalize (vs.findIdx? λx=>x.a==n)=I at*;refine⟨_,_,(hcf _ rfl ?_),?_⟩
 ·intro row hrow;simp[AL]at hrow;rcases hrow with rfl|rfl|rfl<;>simp[Row.low,D.lts,D.lt]
 simp only[oX];rcases hf with ⟨rfl,e2⟩|⟨i,x,rfl,hx,e2⟩
 ·rw[e2];simp[CK,AB,AA,oW,AO,AG,oa,A5]
 ·rw[e2];have hi:¬(i:Int) <0:=by omega
  simp[CK,hi,AD,oV,hx,Val.V,AO,AG,oa,A5]
def Th.cells (t:Th):List D:=[.v (AL .i64 t.cs),.v (.list (t.vs.map Val.V)),.v (.list (t.ps.map Th.V))]
mutual
def Th.kinds (n:Int):Th→Bool| .mk cs _ ps=>(cs.all λc=> !decide (n≤c))&&Th.kindss n ps
def Th.kindss (n:Int):List Th→Bool|[]=>true|k::ks=>k.kinds n&&Th.kindss n ks
end
theorem Gx (n:Int):∀l,Th.kindss n l=l.all (Th.kinds n)
 |[]=>rfl
 |k::ks=>by simp[Th.kindss,Gx n ks]
theorem AQi (c n:Int) (h:List Row) (q:Nat) (hq:h[q]?=some (.cells [.v (.int .i64 n)])):FX 152 [.v (.int .i64 c),.ref q 0] h [.v (.bool (decide (n≤c)))] h:=by
 refine AN AS6 rfl ?_;simp[AOb,awp,ou,ot,ABa,AQ,hq]
theorem AQh (t:Th) (n:Int) (h:List Row) (q:Nat) (hq:h[q]?=some (.cells [.v (.int .i64 n)])) (hl:Low h) (hp:PX 70 [t.V,.int .i64 n] [.bool (t.kinds n)]):
  FX 154 [.v t.V,.ref q 0] h [.v (.bool (!t.kinds n))] h:=by
 refine As AS4 rfl (ATs _) hl (by simp[D.lt]) ?_;have hp:=hp.fsp;generalize t.kinds n=R at*;obtain⟨cs,vs,ps⟩:=t;have hq':=AS [.cells (Th.mk cs vs ps).cells] hq;simp only[Th.cells,Th.cs,Th.vs,Th.ps]at hq';simp only[AOZ,AB,AA,om,ol,AQ];simp[Th.V_eq,AL]at hp hq' ⊢;simp[hq'];refine⟨_,_,hp _,?_⟩;simp[AG,ABY]
theorem p70 (n:Int):∀t:Th,t.ok→PX 70 [t.V,.int .i64 n] [.bool (t.kinds n)]:=by
 refine Th.ind λcs vs ps ih hok=>?_;obtain⟨ok1,ok2,ok3,ok4,ok5⟩:=hok;refine AK k70 rfl ?_;have hlow:Low [Row.cells (Th.mk cs vs ps).cells,.cells [.v (.int .i64 n)]]:=by
  intro row hrow;simp[Th.cells,AL,Th.cs,Th.vs,Th.ps]at hrow;rcases hrow with rfl|rfl<;>simp[Row.low,D.lts,D.lt]
 have hi1:IdxR Tryz.prog GLx 152 [.ref 1 0] (cs.map (.int .i64)) [.cells (Th.mk cs vs ps).cells,.cells [.v (.int .i64 n)]] (cs.findIdx? λc=> !!decide (n≤c)) [.cells (Th.mk cs vs ps).cells,.cells [.v (.int .i64 n)]]:=
  IdxR.map λx hx=>by rw[Bool.not_not];exact AQi x n _ 1 rfl
 have hc1:=tY (.func 152 [.ref 1 0]) 152 [.ref 1 0] (FV.r 152 1 0 []) (cs.map (.int .i64)) (by simp;omega) (by
  intro x hx;obtain⟨y,_,rfl⟩:=ATw.1 hx;exact⟨_,rfl⟩) hi1
 have hi2:IdxR Tryz.prog GLx 154 [.ref 1 0] (ps.map Th.V) [.cells (Th.mk cs vs ps).cells,.cells [.v (.int .i64 n)]] (ps.findIdx? λc=> !c.kinds n) [.cells (Th.mk cs vs ps).cells,.cells [.v (.int .i64 n)]]:=
  IdxR.map λx hx=>AQh x n _ 1 rfl hlow (ih x hx (ok5 x hx))
 have hc2:=ACl (.func 154 [.ref 1 0]) 154 [.ref 1 0] (FV.r 154 1 0 []) (ps.map Th.V) (by simp;omega) (by
  intro x hx;obtain⟨y,_,rfl⟩:=ATw.1 hx;exact y.V3) hi2
 rw[Ed]at hc1 hc2;rw[Th.kinds,Gx];generalize (cs.all λc=> !decide (n≤c))=A at*;generalize (ps.all (Th.kinds n))=B at*;simp only[c70,AB,AA,xJ,xH,AY];simp[Th.V_eq,AL,Th.cells,Th.cs,Th.vs,Th.ps]at hc1 hc2 ⊢;refine⟨_,_,hc1,?_⟩;cases A with
 |false=>simp[AG,ADo]
 |true=>
  simp;refine⟨_,_,hc2,?_⟩;simp[AG,ADo]
theorem p65 (l:List Int) (hn:l.length≤2^40):PX 65 [AL .i64 l] [.int .i64 ((l.find? λx=>x != 0).getD 0)]:=by
 refine AK k65 rfl ?_;obtain⟨R,hR⟩:∃R,(l.find? λx=>x != 0).getD 0=R:=⟨_,rfl⟩;rw[hR];simp only[c65,AB,AA,AF,yM,yL,yK,AY];simp[AL];refine BK l.length (λk=>⟨[(3,.v (.int .i64 0)),(6,.v (AL .i64 l)),(7,.v (.int .i64 l.length)),(8,.v (.int .i64 k))],[]⟩) (λk=>((l.drop k).find? λx=>x != 0).getD 0=R) (by simp[AL]) (by simpa using hR) ?_;intro k hk hI;simp only[yN,AB,AA,AF,AE,yJ];simp[AL];by_cases h1:k <l.length
 ·obtain⟨x,hx⟩:∃x,l[k]?=some x:=⟨_,ATo h1⟩;have hw:IntKind.i64.wrap ((k:Int)+1)=k+1:=AJ;rw[Eg hx]at hI;rw[if_pos (by omega),AD];simp only[AA,yI,yH];simp[hx];by_cases b1:x=0
  ·subst b1;simp at hI;simp[AD,yF,hw,h1,hI]
  ·simp[b1]at hI;subst hI;simp[b1,AB,AA,yG,AG,ADp]
 ·have hk2:k=l.length:=by omega
  subst hk2;simp at hI;rw[if_neg (by omega),AM];simp[AA,AG,AB,yE,ADp,hI]
theorem p9t:FX 9 [] [] [.ref 0 0] [txR (CQ 6 zb)]:=by
 refine As k9 rfl (by simp) ?_ ?_ ?_
 ·intro row hrow;simp only[ATy]at hrow;subst hrow;simp only[txR,Row.low];refine D1 λd hd=>?_;rcases ATt.1 hd with rfl|hd
  ·rfl
  ·obtain⟨b,-,rfl⟩:=ATw.1 hd;rfl
 ·intro d hd;simp only[ATy]at hd;subst hd;rfl
 have q1:=p16.fsp;have q2:=p46;have e:HV= .list (DF.map (AL .i64)):=rfl;rw[e]at q1;have hJ:∃J,Bh (CQ 6 zb) (tfs 6) (tfs 6)=[txR (CQ 6 zb)]++J:=⟨_,rfl⟩;generalize Bh (CQ 6 zb) (tfs 6) (tfs 6)=HH at*;generalize txR (CQ 6 zb)=TX at*;generalize DF=par at*;simp at q1 hJ;simp only[c9,AB,AA,AE,ADZ,ADY,AQ];simp;refine⟨_,_,(q1 _),?_⟩;simp;refine⟨_,_,q2,?_⟩;simp[ADX,AD,ADW,AG,c9R,hJ]
def CN (ps:List V) (bs:List Bool):Row:= .cells (.own 22 1 ps::bs.map bv)
theorem p69 (ps:List V) (bs:List Bool) (h:List Row) (x:Nat) (hx:h[x]?=some (CN ps bs)):FX 69 [.ref x 0] h [.v (.int .i64 ps.length)] h:=by
 refine AN k69 rfl ?_;simp[c69,awp,xP,xM,ALY,AQ,hx,CN]
theorem AQO (c n:Int) (h:List Row) (q:Nat) (hq:h[q]?=some (.cells [.v (.int .i64 n)])):FX 208 [.v (.int .i64 c),.ref q 0] h [.v (.bool (decide (c <0∨n≤c)))] h:=by
 refine AN AJu rfl ?_;by_cases h1:c <0
 ·simp[uv,awp,RE,RD,UC,AQ,hq,h1]
 ·simp[uv,awp,RE,RD,UC,AQ,hq,h1]
theorem AQy (n:Int) (l:List Int) (hn:l.length <2^40):PX 120 [.int .i64 n,AL .i64 l] [.bool (l.all λc=>decide (0≤c∧c <n))]:=by
 refine AK AKE rfl ?_;have hidx:IdxR Tryz.prog GLx 208 [.ref 0 0] (l.map (V.int .i64)) [.cells [.v (.int .i64 n)]] (l.findIdx? λx=> !decide (0≤x∧x <n)) [.cells [.v (.int .i64 n)]]:=
  IdxR.map λx hx=>by
   have:=AQO x n [.cells [.v (.int .i64 n)]] 0 rfl;have e:(decide (x <0∨n≤x))= !decide (0≤x∧x <n):=by
    by_cases h1:x <0∨n≤x
    ·have h2:¬(0≤x∧x <n):=by omega
     rw[decide_eq_true h1,decide_eq_false h2];rfl
    ·have h2:0≤x∧x <n:=by omega
     rw[decide_eq_false h1,decide_eq_true h2];rfl
   rw[e]at this;exact this
 have hcf:=tY (.func 208 [.ref 0 0]) 208 [.ref 0 0] (FV.r 208 0 0 []) (l.map (V.int .i64)) (by simpa using hn) (by
  intro x hx;obtain⟨y,_,rfl⟩:=ATw.1 hx;exact⟨_,rfl⟩) hidx
 rw[Ed]at hcf;simp only[AHc,AB,AA,r5,rz,AY];simp[AL]
 try simp at hcf
 refine⟨_,_,hcf,?_⟩;simp[AG,r7,B8]
def isT (n:Nat) (bs:List Bool) (c d:Int):Bool:=decide (0≤c∧c <n)&&(decide (0≤d∧d <n)&&(bs[(c*64+d).toNat]?).getD false)
theorem AQe (ps:List V) (bs:List Bool) (hps:ps.length≤64) (hbs:bs.length=4096) (h:List Row) (x:Nat) (hx:h[x]?=some (CN ps bs)) (c d:Int):
  FX 157 [.ref x 0,.v (.int .i64 c),.v (.int .i64 d)] h [.v (.bool (isT ps.length bs c d))] h:=by
 refine AN AS1 rfl ?_;have q1:=p69 ps bs h x hx;have q2:=(AQy ps.length [c,d] (by simp)).fsp;simp[AL]at q2;have hlen:(bs.map bv).length=4096:=by rw[AT9,hbs]
 simp only[AOX,AB,AA,od,AQ];simp;simp only[oc];simp;refine⟨_,_,q1,?_⟩;simp;refine⟨_,_,q2 _,?_⟩;unfold isT;by_cases h1:0≤c∧c <ps.length
 ·by_cases h2:0≤d∧d <ps.length
  ·have k1:c <64:=by omega
   have k2:d <64:=by omega
   have e1:(c*64+d).toNat=c.toNat*64+d.toNat:=by omega
   have e2:1+c.toNat*64+d.toNat=(c.toNat*64+d.toNat)+1:=by omega
   obtain⟨b,hb⟩:∃b,bs[c.toNat*64+d.toNat]?=some b:=⟨_,ATo (by rw[hbs];omega)⟩;have k3:1+c.toNat*64+d.toNat≤bs.length:=by rw[hbs];omega
   rw[e1,hb];simp[h1,h2,hx,CN,k1,k2];rw[e2]at k3 ⊢;simp[hb,k3,bv,AG,UW]
  ·have h3:0≤d→(ps.length:Int)≤d:=by omega
   simp[h1,h2,AG,UW];exact h3
 ·simp[h1,AG,UW]
def JC (a b c d:Int):Int:=if okR a b&&okR c d then PU a b c d else 0
theorem AIE (a b c d:Int) (h1:i64 a) (h2:i64 b) (h3:i64 c) (h4:i64 d):PX 310 [A5 a b,A5 c d] [.int .i64 (JC a b c d)]:=by
 refine AK ARo rfl ?_;have q:=(AIU a b c d h1 h2 h3 h4).fsp;unfold JC;cases hk:okR a b&&okR c d with
 |true=>
  rw[hk]at q;simp[A5]at q;simp[AE8,awp,QO,QN,QM,bw,AY,A5];refine⟨_,_,q _,?_⟩;simp
 |false=>
  rw[hk]at q;simp[A5]at q;simp[AE8,awp,QO,QN,QM,bw,AY,A5];refine⟨_,_,q _,?_⟩;simp
def OF (x:Ivl) (n d:Int):Bool:=
 (x.li|| !(decide (JC n d x.ln x.ld <0)||(decide (JC n d x.ln x.ld=0)&&x.lo)))&&(x.hi|| !(decide (0 <JC n d x.hn x.hd)||(decide (JC n d x.hn x.hd=0)&&x.ho)))
theorem APm (x:Ivl) (hx:x.ok) (n d:Int) (h1:i64 n) (h2:i64 d):PX 259 [x.V,A5 n d] [.bool (OF x n d)]:=by
 refine AK ASG rfl ?_;have q1:=(AIE n d x.ln x.ld h1 h2 hx.1 hx.2.1).fsp;have q2:=(AIE n d x.hn x.hd h1 h2 hx.2.2.1 hx.2.2.2).fsp;obtain⟨R,hR⟩:∃R,OF x n d=R:=⟨_,rfl⟩;rw[hR];unfold OF at hR;generalize JC n d x.ln x.ld=a at*;generalize JC n d x.hn x.hd=b at*;obtain⟨ln,ld,hn,hd,lo,ho,li,hi⟩:=x;simp only at hR q1 q2;simp[A5]at q1 q2;simp only[ANC,AB,AA,AF,AE,gL,gK,gJ,AY];simp[Ivl.V,A5];cases li with
 |true=>
  simp[AD];simp only[Mh];simp;cases hi with
  |true=>simp[AD,Dj,AG,EM,B8]at hR ⊢;exact hR
  |false=>
   simp;simp only[Mg];simp;refine⟨_,_,q2 _,?_⟩;simp only[Mf];by_cases b1:0 <b
   ·simp[b1,G8,AG,EM,B8]at hR ⊢;exact hR
   ·by_cases b2:b=0
    ·subst b2;cases ho<;>(simp[AD,G8,Dj,AG,EM,B8]at hR ⊢;exact hR)
    ·simp[b1,b2,AD,Dj,AG,EM,B8]at hR ⊢;exact hR
 |false=>
  simp;simp only[gI];simp;refine⟨_,_,q1 _,?_⟩;simp only[gH];by_cases a1:a <0
  ·simp[a1,Qj,AG,EM,B8]at hR ⊢;exact hR
  ·by_cases a2:a=0∧lo=true
   ·obtain⟨rfl,rfl⟩:=a2;simp[Qj,AG,EM,B8]at hR ⊢;exact hR
   ·have go:(decide (a <0)||decide (a=0)&&lo)=false:=by
     rw[decide_eq_false a1];by_cases a3:a=0
     ·have:lo=false:=by cases lo;rfl;exact absurd ⟨a3,rfl⟩ a2
      simp[this]
     ·simp[a3]
    rw[go]at hR;by_cases a3:a=0
    ·have hlo:lo=false:=by cases lo;rfl;exact absurd ⟨a3,rfl⟩ a2
     subst a3;subst hlo;simp[AD];simp only[Mh];simp;cases hi with
     |true=>simp[AD,Dj,AG,EM,B8]at hR ⊢;exact hR
     |false=>
      simp;simp only[Mg];simp;refine⟨_,_,q2 _,?_⟩;simp only[Mf];by_cases b1:0 <b
      ·simp[b1,G8,AG,EM,B8]at hR ⊢;exact hR
      ·by_cases b2:b=0
       ·subst b2;cases ho<;>(simp[AD,G8,Dj,AG,EM,B8]at hR ⊢;exact hR)
       ·simp[b1,b2,AD,Dj,AG,EM,B8]at hR ⊢;exact hR
    ·simp[a1,a3,AD];simp only[Mh];simp;cases hi with
     |true=>simp[AD,Dj,AG,EM,B8]at hR ⊢;exact hR
     |false=>
      simp;simp only[Mg];simp;refine⟨_,_,q2 _,?_⟩;simp only[Mf];by_cases b1:0 <b
      ·simp[b1,G8,AG,EM,B8]at hR ⊢;exact hR
      ·by_cases b2:b=0
       ·subst b2;cases ho<;>(simp[AD,G8,Dj,AG,EM,B8]at hR ⊢;exact hR)
       ·simp[b1,b2,AD,Dj,AG,EM,B8]at hR ⊢;exact hR
theorem APn (x:Ivl) (hx:x.ok) (n d:Int) (h1:i64 n) (h2:i64 d) (h:List Row) (q:Nat) (hq:h[q]?=some (.cells [.v (.int .i64 n),.v (.int .i64 d)])) (hl:Low h):
  FX 257 [.v x.V,.ref q 0] h [.v (.bool (EZ x&&OF x n d))] h:=by
 refine As ASI rfl (ATs _) hl (by simp[D.lt]) ?_;have hq':=AS [.cells [.v (.int .i64 x.ln),.v (.int .i64 x.ld),.v (.int .i64 x.hn),.v (.int .i64 x.hd),.v (.bool x.lo),.v (.bool x.ho),.v (.bool x.li),.v (.bool x.hi)]] hq;have q1:=(AIO x hx).fsp;have q2:=(APm x hx n d h1 h2).fsp;generalize EZ x=G at*;generalize OF x n d=R at*;simp[Ivl.V,A5]at q1 q2;simp only[ANE,AB,AA,gR,gQ,AQ];simp[Ivl.V];refine⟨_,_,q1 _,?_⟩;cases G with
 |false=>simp[AG,gS]
 |true=>
  simp[hq'];refine⟨_,_,q2 _,?_⟩;simp[AG,gS]
def ADC (l:List Ivl) (n d:Int):Bool:=okR n d&&l.any λx=>EZ x&&OF x n d
theorem AQc (l:List Ivl) (hl:∀x∈l,x.ok) (hn:l.length <2^40) (n d:Int) (h1:i64 n) (h2:i64 d):PX 159 [.list (l.map Ivl.V),A5 n d] [.bool (ADC l n d)]:=by
 refine AK ASz rfl ?_;have q1:=(tX n d h1 h2).fsp;have hidx:IdxR Tryz.prog GLx 257 [.ref 0 0] (l.map Ivl.V) [.cells [.v (.int .i64 n),.v (.int .i64 d)]] (l.findIdx? λx=>EZ x&&OF x n d) [.cells [.v (.int .i64 n),.v (.int .i64 d)]]:=
  IdxR.map λx hx=>APn x (hl x hx) n d h1 h2 _ 0 rfl (by
   intro row hrow;simp only[ATy]at hrow;subst hrow;rfl)
 have hcf:=APo (.func 257 [.ref 0 0]) 257 [.ref 0 0] (FV.r 257 0 0 []) (l.map Ivl.V) (by simpa using hn) (by
  intro x hx;obtain⟨y,_,rfl⟩:=ATw.1 hx;exact⟨_,rfl,rfl⟩) hidx
 rw[Cn]at hcf;unfold ADC;generalize okR n d=O at*;generalize (l.any λx=>EZ x&&OF x n d)=R at*;simp[A5]at q1 hcf;simp only[AOV,AB,AA,oT,oS,AY];simp[A5];cases O with
 |false=>
  simp at q1;refine⟨_,_,q1 _,?_⟩;simp[AG,oU,B8]
 |true=>
  simp at q1;refine⟨_,_,q1 _,?_⟩;simp;refine⟨_,_,hcf,?_⟩;simp[AG,oU,B8]
def rdr (xs:List Int):Row:= .cells [.v (AL .u8 xs),.v (.int .i64 0)]
theorem p44 (xs:List Int) (hb:xs.length≤2^45) (h:List Row):FX 44 [.v (AL .u8 xs)] h [.ref h.length 0] (h++[rdr xs]):=by
 refine AN k44 rfl ?_;simp[c44,awp,AAF,AAE,ALv,AQ];refine⟨_,_,(AIf xs hb h),?_⟩;simp[rdr,AL,AO,D.toRow]
theorem AQz (n:Int) (hn:i64 n):PX 118 [.int .u64 (II n)] [.int .i64 n]:=by
 refine AK ATP rfl ?_;unfold i64 at hn;unfold II;have e1:((2:Int)^IntKind.u64.bits)=18446744073709551616:=by decide
 have e2:((2:Int)^IntKind.i64.bits)=18446744073709551616:=by decide
 have e3:((1:Int)%18446744073709551616).toNat=1:=by decide
 have e4:(2:Int)^min 1 IntKind.u64.bits=2:=by decide
 by_cases h0:n <0
 ·simp[AHe,awp,Rz,Ry,sH,AY,h0];have d1:(2* -(n+1)+1).fdiv (2^min 1 IntKind.u64.bits)= -(n+1):=by
   rw[e4,AVc _ (by decide)];omega
  have d2:((2* -(n+1)+1)%18446744073709551616).toNat%2=1:=by omega
  rw[d1,e1,e2,e3,Nat.and_one_is_mod,d2,AJ (a:= -(n+1)) (by omega) (by omega)];have d3:IntKind.i64.wrap (-IntKind.i64.wrap (IntKind.u64.wrap ((1:Nat):Int)))= -1:=by decide
  rw[d3];have d4:((-1:Int)%18446744073709551616).toNat=2^64-1:=by decide
  rw[d4,Nb _ (by omega)];have d5:((2^64-1-(-(n+1)%18446744073709551616).toNat:Nat):Int)=n+18446744073709551616:=by omega
  rw[d5];have:IntKind.i64.wrap (n+18446744073709551616)=n:=by
   unfold IntKind.wrap;simp only[IntKind.bits,IntKind.signed];have e5:((2:Int)^64)=18446744073709551616:=by decide
   simp only[e5];simp;omega
  exact this
 ·simp[AHe,awp,Rz,Ry,sH,AY,h0];have d1:(2*n).fdiv (2^min 1 IntKind.u64.bits)=n:=by
   rw[e4,AVc _ (by decide)];omega
  have d2:((2*n)%18446744073709551616).toNat%2=0:=by omega
  rw[d1,e1,e2,e3,Nat.and_one_is_mod,d2,AJ (a:=n) (by omega) (by omega)];have d3:IntKind.i64.wrap (-IntKind.i64.wrap (IntKind.u64.wrap ((0:Nat):Int)))=0:=by decide
  rw[d3];have d4:((0:Int)%18446744073709551616).toNat=0:=by decide
  rw[d4,Nat.xor_zero,AJ];omega
theorem AIX (c:Int) (xs:List Int) (h:List Row) (r:Nat) (hr:h[r]?=some (rdr (c::xs))):FX 203 [.ref r 0] h [.v (.int .u8 c)] (h.set r (rdr xs)):=by
 refine AN ASp rfl ?_;have h1:¬((xs.length:Int)+1=0):=by omega
 simp[AN3,awp,nD,nB,m9,mz,my,mw,ABI,AQ,hr,rdr,AL,h1];simp[AO]
theorem s8 {c:Int} (h0:0≤c) (h1:c <256):IntKind.u8.wrap (((c%2^IntKind.u8.bits).toNat &&& 2^IntKind.u8.bits-1-128%2^IntKind.u8.bits:Nat):Int)=c%128:=by
 have key:∀m:Fin 256,IntKind.u8.wrap ((((m.val:Int)%2^IntKind.u8.bits).toNat &&& 2^IntKind.u8.bits-1-128%2^IntKind.u8.bits:Nat):Int)=(m.val:Int)%128:=by decide+kernel
 have:=key ⟨c.toNat,by omega⟩;simpa only[AWN h0]using this
theorem ACt {a b:Int} {i:Nat} (h0:0≤a) (h1:a <2^i) (h2:0≤b) (h3:a+b*2^i <18446744073709551616):
  (a.toNat ||| (b*2^i).toNat:Nat)=(a+b*2^i).toNat:=by
 have e1:(b*2^i).toNat=2^i*b.toNat:=by
  obtain⟨m,rfl⟩:=Int.eq_ofNat_of_zero_le h2;have:((m:Int)*2^i)=((2^i*m:Nat):Int):=by push_cast;rw[AVt]
  rw[this,AVe,AVe]
 have e2:a.toNat <2^i:=by
  have:((2^i:Nat):Int)=2^i:=by push_cast;rfl
  omega
 rw[e1,Nat.or_comm,←Nat.two_pow_add_eq_or_of_lt e2];have e3:((2^i*b.toNat:Nat):Int)=b*2^i:=by
  rw[←e1];exact AWN (AVu h2 (AVx (AWG (by decide))))
 omega
theorem AHn {Q:AExit→St→Prop} {c acc:Int} {i:Nat} {h:List Row} {r:Nat} {xs:List Int} (hr:h[r]?=some (rdr (c::xs))) (hc:0≤c∧c <256) (hi:i≤9) (h9:¬(i=9∧1 <c)) (h0:¬(0 <i∧c=0))
  (ha:0≤acc∧acc <128^i) (hs:acc+(c%128)*128^i <18446744073709551616)
  (hret:c <128→Q .ret ⟨[(2,.v (.int .u64 (acc+c*128^i)))],h.set r (rdr xs)⟩)
  (hgo:128≤c→Q .normal ⟨[(0,.ref r 0),(3,.v (.int .u64 (acc+(c%128)*128^i))),(4,.v (.int .i64 (i+1)))],h.set r (rdr xs)⟩):
  awp Tryz.prog GLx NE Q ⟨[(0,.ref r 0),(3,.v (.int .u64 acc)),(4,.v (.int .i64 i))],h⟩:=by
 simp only[NE,AB,AA,AF,AE,sD];simp[hr,rdr,AL,AD];simp only[AA,r9];simp;refine⟨_,_,(AIX c xs h r hr),?_⟩;have hj:i=9∧¬1 <c∧¬c=0∨i=0∨(0 <i∧¬i=9∧¬c=0):=by omega
 have a1:=s8 hc.1 hc.2;have a2:IntKind.u64.wrap (c%128)=c%128:=Bg (by omega) (by omega);have a3:IntKind.i64.wrap (7*(i:Int))=7*i:=AJ;have a6:IntKind.i64.wrap ((i:Int)+1)=i+1:=AJ;have e64:((2:Int)^IntKind.u64.bits)=18446744073709551616:=by decide
 have k3:0≤7*(i:Int):=by omega
 have PA:(128:Int)^i=2^(7*i):=by rw[Int.pow_mul];rfl
 have hx0:0≤c%128*128^i:=AVu (by omega) (AVx (AWG (by decide)));have a4:IntKind.u64.wrap (c%128*2^min (7*(i:Int)).toNat IntKind.u64.bits)=c%128*128^i:=by
  have:min (7*(i:Int)).toNat IntKind.u64.bits=7*i:=by
   have:(7*(i:Int)).toNat=7*i:=by omega
   rw[this];exact AU1 (by show 7*i≤64;omega)
  rw[this,←PA,Bg hx0 (by omega)]
 have a5:IntKind.u64.wrap (((acc%2^IntKind.u64.bits).toNat ||| (c%128*128^i%2^IntKind.u64.bits).toNat:Nat):Int)=acc+c%128*128^i:=by
  rw[e64,Int.emod_eq_of_lt ha.1 (by omega),Int.emod_eq_of_lt hx0 (by omega)];rw[PA]at hs ⊢;rw[ACt ha.1 (by rw[←PA];exact ha.2) (by omega) hs,AWN (by rw[←PA];omega),Bg (by rw[←PA];omega) hs]
 have tail:∀x:D,Bd Tryz.prog GLx Rw (λs'=>Bd Tryz.prog GLx Rv (λs'=>match (AH s'.e 47).copy with
   | .v (.bool t)=>if t=true then Bd Tryz.prog GLx ND (λs'=>Q .ret ⟨[(2,AH s'.e 2)],s'.h⟩) ⟨[(0,AH s'.e 0),(3,AH s'.e 3),(4,AH s'.e 4),(47,AH s'.e 47)],s'.h⟩
    else Bd Tryz.prog GLx Rx (λs'=>Q .normal ⟨[(0,AH s'.e 0),(3,AH s'.e 3),(4,AH s'.e 4)],s'.h⟩) ⟨[(0,AH s'.e 0),(3,AH s'.e 3),(4,AH s'.e 4),(47,AH s'.e 47)],s'.h⟩
   |_=>False) ⟨[(0,AH s'.e 0),(3,AH s'.e 3),(4,AH s'.e 4),(5,AH s'.e 5)],s'.h⟩) ⟨[(0,.ref r 0),(3,.v (.int .u64 acc)),(4,.v (.int .i64 i)),(5,.v (.int .u8 c)),(28,x)],h.set r (rdr xs)⟩:=by
  intro x;simp only[Rw];simp[a1,a2,a3,k3,a4,a5];simp only[Rv];by_cases hl:c <128
  ·have hm:c%128=c:=by omega
   simp[hl,BU hr,rdr,AL];simp only[ND];simp;rw[hm];exact hret hl
  ·simp[hl,BU hr,rdr,AL];simp only[Rx];simp[a6];exact hgo (by omega)
 rcases hj with ⟨j0,j1,j2⟩|j0|⟨j0,j1,j2⟩
 ·have k1:((i:Int)=9)=True:=eq_true (by omega);have k2:0 <i:=by omega
  simp only[NC];simp[k1,k2,j1,j2];exact tail _
 ·have k1:((i:Int)=9)=False:=eq_false (by omega);have k2:¬0 <i:=by omega
  simp only[NC];simp[k1,k2];exact tail _
 ·have k1:((i:Int)=9)=False:=eq_false (by omega);simp only[NC];simp[k1,j0,j2];exact tail _
theorem ARV (k:Nat):∀(m acc:Int) (i:Nat) (h:List Row) (r:Nat) (rest:List Int),i+k=9→0≤acc→acc <128^i→0≤m→m <128^(k+1)→acc+m*128^i <18446744073709551616→(0 <i→0 <m)→
  h[r]?=some (rdr (DH k m++rest))→
  awp Tryz.prog GLx (.loop NE) (λe s=>e= .ret∧s=⟨[(2,.v (.int .u64 (acc+m*128^i)))],h.set r (rdr rest)⟩) ⟨[(0,.ref r 0),(3,.v (.int .u64 acc)),(4,.v (.int .i64 i))],h⟩:=by
 induction k with
 |zero=>
  intro m acc i h r rest hik ha0 ha1 hm0 hm1 hs h0 hr;obtain rfl:i=9:=by omega
  have e9:(128:Int)^9=9223372036854775808:=by decide
  have e1:(128:Int)^(0+1)=128:=by decide
  rw[e9]at hs ha1;have hm2:m%128=m:=by omega
  refine Af (AHn (c:=m) (xs:=rest) hr ⟨hm0,by omega⟩ (by omega) (by omega) (by have:=h0 (by omega);omega) ⟨ha0,by rw[e9];exact ha1⟩ (by rw[hm2,e9];exact hs) (λ_=>⟨rfl,rfl⟩) (λh=>by omega))
 |succ k ih=>
  intro m acc i h r rest hik ha0 ha1 hm0 hm1 hs h0 hr;have hp:(0:Int) <128^i:=AWG (by decide);by_cases hl:m <128
  ·have hm2:m%128=m:=by omega
   rw[show DH (k+1) m=[m] by simp[DH,hl]]at hr;refine Af (AHn (c:=m) (xs:=rest) hr ⟨hm0,by omega⟩ (by omega) (by omega) (λhh=>by have:=h0 hh.1;omega) ⟨ha0,ha1⟩ (by rw[hm2];exact hs) (λ_=>⟨rfl,rfl⟩) (λh=>by omega))
  ·rw[show DH (k+1) m=(128+m%128)::DH k (m/128) by simp[DH,hl]]at hr;have hc:(128+m%128)%128=m%128:=by omega
   have hp1:(128:Int)^(i+1)=128^i*128:=AVZ ..;have hle:(m%128)*128^i≤m*128^i:=AUp (by omega) (AVx hp);have hsum:acc+(m%128)*128^i+(m/128)*128^(i+1)=acc+m*128^i:=by
    have:m*128^i=(m%128+128*(m/128))*128^i:=by rw[Int.emod_add_mul_ediv]
    rw[this,hp1,Int.add_mul];have:m/128*(128^i*128)=128*(m/128)*128^i:=by
     rw[AVt (128^i) 128,←AWU,AVt (m/128) 128]
    omega
   have hlt:acc+(m%128)*128^i <128^(i+1):=by
    have:(m%128)*128^i≤127*128^i:=AUp (by omega) (AVx hp);omega
   have hm1':m/128 <128^(k+1):=AWT (by decide) (by rw[←AVZ];exact hm1);have h2:=ih (m/128) (acc+(m%128)*128^i) (i+1) (h.set r (rdr (DH k (m/128)++rest))) r rest (by omega) (Int.add_nonneg ha0 (AVu (by omega) (AVx hp))) hlt (by omega) hm1' (by rw[hsum];exact hs) (by omega) (BU hr);rw[hsum,AU6]at h2;refine Aw (s1:=⟨[(0,.ref r 0),(3,.v (.int .u64 (acc+(m%128)*128^i))),(4,.v (.int .i64 ((i+1:Nat):Int)))],h.set r (rdr (DH k (m/128)++rest))⟩) ?_ h2;refine AHn (c:=128+m%128) hr ⟨by omega,by omega⟩ (by omega) (by omega) (by omega) ⟨ha0,ha1⟩ (by rw[hc];omega) (λh=>by omega) (λ_=>?_);rw[hc,AUs];rfl
theorem ACo (n:Int) (hn:u64 n) (h:List Row) (r:Nat) (rest:List Int) (hr:h[r]?=some (rdr (Gq n++rest))):FX 119 [.ref r 0] h [.v (.int .u64 n)] (h.set r (rdr rest)):=by
 refine AN ATO rfl ?_;unfold u64 at hn;have e10:(128:Int)^(9+1)=1180591620717411303424:=by decide
 have hw:=ARV 9 n 0 0 h r rest (by omega) (by omega) (by decide) hn.1 (by omega) (by simpa using hn.2) (by omega) hr;simp only[AOz,AB,AF,AA,sG,sF,sE,AQ];simp;simp at hw;refine HC hw ?_;simp[AB4]
theorem p45 (n:Int) (hn:i64 n) (h:List Row) (r:Nat) (rest:List Int) (hr:h[r]?=some (rdr (Ag n++rest))):FX 45 [.ref r 0] h [.v (.int .i64 n)] (h.set r (rdr rest)):=by
 refine AN k45 rfl ?_;simp[c45,awp,AAD,AAC,ALu,AQ];refine⟨_,_,(ACo (II n) (HF hn) h r rest hr),?_⟩;simp;refine⟨_,(AQz n hn).fsp _,?_⟩;simp
theorem GJ:∀(k:Nat) (n:Int),1≤(DH k n).length
 |0,n=>by simp[DH]
 |k+1,n=>by
  simp only[DH];split<;>simp
theorem D3:∀l:List Int,l.length≤(l.flatMap Ag).length
 |[]=>by simp
 |x::l=>by
  have:=GJ 9 (II x);have:=D3 l;simp only[AT8,ATr,AUA,Ag,Gq]at *;omega
theorem AQR (xs:List Int) (h:List Row) (r:Nat) (rest:List Int) (hb:xs.length+rest.length≤2^44) (hr:h[r]?=some (rdr (BI xs++rest))):
  FX 202 [.ref r 0,.meth 203 [.ref r 0]] h [.own 5 1 (xs.map (.int .u8))] (h.set r (rdr rest)):=by
 refine AN ASq rfl ?_;have w1:∀n:Int,0≤n→n≤2^50→IntKind.u64.wrap n=n:=λn h0 hn=>Bg (by omega) (by omega);simp only[AN4,AB,AF,AA,nM,nL,AQ];simp;refine⟨_,_,(ACo xs.length ⟨by omega,by omega⟩ h r (xs++rest) (by simpa[BI,BF]using hr)),?_⟩;simp only[AA,AE,nK];have hlen:xs.length≤(xs).length:=by exact ATs _
 have hlen2:(xs).length≤10*xs.length:=by omega
 have w2:IntKind.u64.wrap ((xs).length+rest.length:Int)=(xs).length+rest.length:=w1 _ (by omega) (by omega);have hlt:¬(((xs).length+rest.length:Int) <xs.length):=by omega
 generalize hX:xs=X at w2 hlt;simp[BU hr,rdr,AL,w2,hlt,AD];subst hX;simp only[AA,nJ,nI];simp;refine Ac xs.length (λk=>⟨[(0,.ref r 0),(1,.meth 203 [.ref r 0]),(5,.v (.int .u64 xs.length)),(6,.own 5 1 ((xs.take k).map (.int .u8))),(7,.v (.int .u64 k))],h.set r (rdr ((xs.drop k)++rest))⟩) (by simp[rdr,AL]) ?_;intro k hk;simp only[nN,AB,AA,AF,AE,nH];by_cases h1:k <xs.length
 ·have hd:xs.drop k=xs[k]::xs.drop (k+1):=AU9 h1;simp[BU hr,rdr,h1,AD];simp only[AA,nF];simp;refine⟨_,_,(AIX xs[k] (xs.drop (k+1)++rest) _ r (by rw[BU hr,hd];rfl)),?_⟩;have hroom:Ah (k+1) 1=true:=by simp[Ah];omega
  have ht:min k xs.length=k:=by omega
  simp[ht,hroom];simp only[nG];have w3:IntKind.u64.wrap ((k:Int)+1)=k+1:=w1 _ (by omega) (by omega);have htk:(xs.map (V.int .u8)).take (k+1)=(xs.map (V.int .u8)).take k++[V.int .u8 xs[k]]:=by
   rw[←AUM,←AUM,AUx h1,AUN];rfl
  simp[w3,h1,rdr,htk]
 ·have:k=xs.length:=by omega
  subst this;simp[BU hr,rdr,AM];simp only[AA,nE,AE];simp[BU hr,rdr,AD];simp only[UK];simp[ABJ,AG,AL]
theorem AQP (xs:List Int) (hi:∀n∈xs,i64 n) (h:List Row) (r:Nat) (rest:List Int) (hb:xs.length+rest.length≤2^44) (hr:h[r]?=some (rdr (BF xs++rest))):
  FX 206 [.ref r 0,.meth 45 [.ref r 0]] h [.own 3 1 (xs.map (.int .i64))] (h.set r (rdr rest)):=by
 refine AN ASm rfl ?_;have w1:∀n:Int,0≤n→n≤2^50→IntKind.u64.wrap n=n:=λn h0 hn=>Bg (by omega) (by omega);simp only[AN0,AB,AF,AA,mb,ma,AQ];simp;refine⟨_,_,(ACo xs.length ⟨by omega,by omega⟩ h r ((xs).flatMap Ag++rest) (by simpa[BI,BF]using hr)),?_⟩;simp only[AA,AE,mZ];have hlen:xs.length≤((xs).flatMap Ag).length:=by exact D3 xs
 have hlen2:((xs).flatMap Ag).length≤10*xs.length:=by exact CZ xs
 have w2:IntKind.u64.wrap (((xs).flatMap Ag).length+rest.length:Int)=((xs).flatMap Ag).length+rest.length:=w1 _ (by omega) (by omega);have hlt:¬((((xs).flatMap Ag).length+rest.length:Int) <xs.length):=by omega
 generalize hX:(xs).flatMap Ag=X at w2 hlt;simp[BU hr,rdr,AL,w2,hlt,AD];subst hX;simp only[AA,mY,mX];simp;refine Ac xs.length (λk=>⟨[(0,.ref r 0),(1,.meth 45 [.ref r 0]),(5,.v (.int .u64 xs.length)),(6,.own 3 1 ((xs.take k).map (.int .i64))),(7,.v (.int .u64 k))],h.set r (rdr (((xs.drop k)).flatMap Ag++rest))⟩) (by simp[rdr,AL]) ?_;intro k hk;simp only[mc,AB,AA,AF,AE,mW];by_cases h1:k <xs.length
 ·have hd:xs.drop k=xs[k]::xs.drop (k+1):=AU9 h1;simp[BU hr,rdr,h1,AD];simp only[AA,mU];simp;refine⟨_,_,(p45 xs[k] (hi _ (AUc h1)) _ r ((xs.drop (k+1)).flatMap Ag++rest) (by rw[BU hr,hd,AT8,AT1];rfl)),?_⟩;have hroom:Ah (k+1) 8=true:=by simp[Ah];omega
  have ht:min k xs.length=k:=by omega
  simp[ht,hroom];simp only[mV];have w3:IntKind.u64.wrap ((k:Int)+1)=k+1:=w1 _ (by omega) (by omega);have htk:(xs.map (V.int .i64)).take (k+1)=(xs.map (V.int .i64)).take k++[V.int .i64 xs[k]]:=by
   rw[←AUM,←AUM,AUx h1,AUN];rfl
  simp[w3,h1,rdr,htk]
 ·have:k=xs.length:=by omega
  subst this;simp[BU hr,rdr,AM];simp only[AA,mT,AE];simp[BU hr,rdr,AD];simp only[UD];simp[ABG,AG,AL]
theorem AIg (xs:List Int) (h:List Row) (r:Nat) (rest:List Int) (hb:xs.length+rest.length≤2^44) (hr:h[r]?=some (rdr (BI xs++rest))):FX 112 [.ref r 0] h [.own 5 1 (xs.map (.int .u8))] (h.set r (rdr rest)):=by
 refine AN ATT rfl ?_;simp[AO2,awp,sR,sQ,AB9,AQ];refine⟨_,(AQR xs h r rest hb hr),?_⟩;simp
theorem ACq (xs:List Int) (hi:∀n∈xs,i64 n) (h:List Row) (r:Nat) (rest:List Int) (hb:xs.length+rest.length≤2^44) (hr:h[r]?=some (rdr (BF xs++rest))):FX 114 [.ref r 0] h [.own 3 1 (xs.map (.int .i64))] (h.set r (rdr rest)):=by
 refine AN ATR rfl ?_;simp[AO1,awp,sM,sL,AB6,AQ];refine⟨_,(AQP xs hi h r rest hb hr),?_⟩;simp
theorem ACp (h:List Row) (r:Nat) (hr:h[r]?=some (rdr [])):FX 116 [.ref r 0] h [.v (.int .i64 0)] h:=by
 refine AN ATQ rfl ?_;simp[AO0,awp,sK,sJ,sI,AB5,AQ,hr,rdr,AL]
def AD4:=[xw 8 false]
def AD3:=[x0 35 9,xm 9 35]
def AD2:=[xn 36 0,x1 37 10 36,x1 38 14 37,xn 10 38]
def AD1:=[xm 40 9,xm 41 10,x2 42 13 40 41,xn 39 42,xe 43 39 0,xe 44 39 1,xm 11 43,xm 12 44]
def AD0:=[xm 45 11,xp 46 (.eqP false (xt 45) (.c (.v .nilp))),xm 47 46,xG 47 false (xm 48 12),xG 47 false (xC 49 .neq 48 0),xO 50 47 49]
def ALo:=[xw 8 false]
def ADz:=[xn 51 1,xc 52 21 [(xt 51),(xi 6),(xi 3)],xo (.alloc 13 [.own 3 1 [],.own 171 3 [],.own 58 3 []]),xs 13 52 3]
def ADy:=[xm 53 2,xc 54 11 [(xt 53),(xi 80)],xb 55 .add (xi 35990) (xt 54),xm 14 55]
def ADx:=[xm 57 11,xL 58 13 3,x2 59 22 57 58,xn 56 59,xe 60 56 0,xe 61 56 1,xo (.alloc 15 [xz,xz,xz,xz,.own 3 1 [],.own 171 3 [],.own 58 3 [],.own 74 8 [],.own 76 2 [],.own 3 1 [],.own 47 1 [],.own 47 1 [],.own 5 1 []]),xs 15 60 13,xm 16 61]
def ADw:=[xm 63 11,xL 64 13 3,xm 65 14,x3 66 23 63 64 65,xn 62 66,xe 67 62 0,xe 68 62 1,xo (.alloc 17 [xz,xz,xz,xz,.own 3 1 [],.own 171 3 [],.own 58 3 [],.own 74 8 [],.own 76 2 [],.own 3 1 [],.own 47 1 [],.own 47 1 [],.own 5 1 []]),xs 17 67 13,xm 18 68]
def ZK:=[xm 70 11,xL 71 13 3,xm 72 14,xm 73 3,xc 74 11 [(xt 73),(xi 60)],xB 75 .add 72 74,xo (.callF (some 76) (xf 23) [(xt 70),(xt 71),(xt 75)]),xn 69 76,xe 77 69 0,xe 78 69 1,xo (.alloc 19 [xz,xz,xz,xz,.own 3 1 [],.own 171 3 [],.own 58 3 [],.own 74 8 [],.own 76 2 [],.own 3 1 [],.own 47 1 [],.own 47 1 [],.own 5 1 []]),xs 19 77 13,xm 20 78]
def ZJ:=[xm 79 16,xC 80 .neq 79 0,xm 81 80,xG 81 false (xm 82 18),xG 81 false (xC 83 .neq 82 0),xO 84 81 83,xm 85 84,xG 85 false (xm 86 20),xG 85 false (xC 87 .neq 86 0),xO 88 85 87]
def zn:=[xw 8 false]
def ZI:=[xv 21 0]
def ZH:=[xv 22 0]
def ZG:=[xv 23 0]
def ZF:=[xm 89 23,xa 90 15 8 1,xl 91 90 1,xA 92 91,xB 93 .lss 89 92]
def ZD:=[xw 24 false]
def ZC:=[xv 25 0]
def zm:=[xm 96 25,xm 97 10,xA 98 97,xB 99 .lss 96 98]
def zl:=[xm 102 10,xm 103 25,xI 104 102 103 8,xa 105 104 0 1,xl 106 105 1,xa 107 15 8 1,xl 108 107 1,xm 109 23,xI 110 108 109 2,xa 111 110 0 1,xl 112 111 1,xB 113 .neq 106 112]
def zk:=[xm 115 10,xm 116 25,xI 117 115 116 8,xa 118 117 3 1,xl 119 118 1,xa 120 15 8 1,xl 121 120 1,xm 122 23,xI 123 121 122 2,xa 124 123 1 1,xl 125 124 1,x2 126 24 119 125,xn 114 126,xe 127 114 0,xe 128 114 1,xn 26 127,xm 27 128]
def zj:=[xm 129 27,xC 130 .neq 129 0]
def ALp:=[xw 8 false]
def zi:=[xv 28 0]
def zh:=[xm 131 28,xm 132 26,xA 133 132,xB 134 .lss 131 133]
def zf:=[xm 138 9,xm 139 26,xm 140 28,xI 141 139 140 4,xL 142 141 4,xL 143 13 3,xo (.callF (some 144) (xf 25) [(xt 138),(xt 142),(xt 143)]),xn 137 144,xe 145 137 0,xe 146 137 1,xm 29 145,xm 30 146]
def ze:=[xv 31 0]
def zd:=[xm 147 31,xm 148 10,xm 149 25,xI 150 148 149 8,xa 151 150 4 1,xl 152 151 1,xA 153 152,xB 154 .lss 147 153]
def zc:=[xm 157 10,xm 158 25,xI 159 157 158 8,xa 160 159 4 1,xl 161 160 1,xm 162 31,xI 163 161 162 4,xL 164 163 4,xo (.alloc 32 [xz,xz,xz,xz]),xs 32 164 4]
def za:=[xm 165 24,xm 166 165,xG 166 false (xm 167 30),xG 166 false (xC 168 .eql 167 0),xG 166 false (xm 169 168),xG 169 true (xm 170 29),xG 166 false (xN 171 169 170),xG 166 false (xm 172 171),xG 172 true (xa 173 32 0 2),xG 172 true (xL 174 173 2),xG 172 true (xa 175 15 8 1),xG 172 true (xl 176 175 1),xG 172 true (xm 177 23),xG 172 true (xI 178 176 177 2),xG 172 true (xa 179 178 1 1),xG 172 true (xl 180 179 1),xG 172 true (xm 181 28),xG 172 true (xp 182 (.build [xz,xz] [(0,1,(xt 180)),(1,1,(xt 181))])),xG 172 true (xp 183 (.eqA false [0,0] (xt 174) (xt 182))),xG 166 false (xN 184 172 183),xG 166 false (xm 185 184),xG 185 true (xa 186 32 2 1),xG 185 true (xl 187 186 1),xG 185 true (xm 188 14),xG 185 true (xB 189 .lss 187 188),xG 166 false (xN 190 185 189),xO 191 166 190,xm 24 191]
def Lf:=[xm 155 31,xC 156 .add 155 1,xm 31 156]
def AD5:AC:=.seq (xS zd [9,10,13,14,15,17,19,21,22,23,24,25,26,28,29,30,31,154] (xD 154 6)) (.seq (.block 7 (xS zc [9,10,13,14,15,17,19,21,22,23,24,25,26,28,29,30,31,32] (.regD za [9,10,13,14,15,17,19,21,22,23,24,25,26,28,29,30,31] (xK [[],[0],[1],[2],[3],[4],[5],[6],[7],[8],[7],[10],[7],[11,12],[13],[14],[7],[15,16],[9,17],[18],[19],[20],[21],[20],[22,23],[24],[25],[26]])))) (.reg Lf [9,10,13,14,15,17,19,21,22,23,24,25,26,28,29,30,31]))
def zg:=[xm 135 28,xC 136 .add 135 1,xm 28 136]
def AD6:AC:=.seq (xS zh [9,10,13,14,15,17,19,21,22,23,24,25,26,28,134] (xD 134 4)) (.seq (.block 5 (.seq (.regD zf [9,10,13,14,15,17,19,21,22,23,24,25,26,28,29,30] (xK [[],[],[],[1,2],[3],[],[0,4,5],[6],[7],[7],[8],[9,10]])) (xS ze [9,10,13,14,15,17,19,21,22,23,24,25,26,28,29,30,31] (.block 6 (.loop AD5))))) (.reg zg [9,10,13,14,15,17,19,21,22,23,24,25,26,28]))
def ZB:=[xm 100 25,xC 101 .add 100 1,xm 25 101]
def uM:AC:=.seq (xS zm [9,10,13,14,15,17,19,21,22,23,24,25,99] (xD 99 2)) (.seq (.block 3 (.seq (.seq (.regD zl [9,10,13,14,15,17,19,21,22,23,24,25,113] (xK [[],[],[0,1],[2],[3],[],[5],[],[6,7],[8],[9],[4,10]])) (.cond (xt 113) (.exit 3) .skip)) (.seq (.regD zk [9,10,13,14,15,17,19,21,22,23,24,25,26,27] (xK [[],[],[0,1],[2],[3],[],[5],[],[6,7],[8],[9],[4,10],[11],[12],[12],[13],[14,15]])) (xQ zj [9,10,13,14,15,17,19,21,22,23,24,25,26,130] 130 (xE ALp [8]) (xS zi [9,10,13,14,15,17,19,21,22,23,24,25,26,28] (.block 4 (.loop AD6))))))) (.reg ZB [9,10,13,14,15,17,19,21,22,23,24,25]))
def H6:=[xm 192 21,xa 193 17 8 1,xl 194 193 1,xA 195 194,xB 196 .lss 192 195,xm 197 196,xG 197 true (xa 198 17 8 1),xG 197 true (xl 199 198 1),xG 197 true (xm 200 21),xG 197 true (xI 201 199 200 2),xG 197 true (xL 202 201 2),xG 197 true (xa 203 15 8 1),xG 197 true (xl 204 203 1),xG 197 true (xm 205 23),xG 197 true (xI 206 204 205 2),xG 197 true (xL 207 206 2),xG 197 true (xp 208 (.eqA false [0,0] (xt 202) (xt 207))),xN 209 197 208,xm 33 209]
def H5:=[xm 210 33,xm 211 24,xp 212 (.eqB true (xt 210) (xt 211))]
def zZ:=[xw 8 false]
def H4:=[xm 213 22,xa 214 19 8 1,xl 215 214 1,xA 216 215,xB 217 .lss 213 216,xm 218 217,xG 218 true (xa 219 19 8 1),xG 218 true (xl 220 219 1),xG 218 true (xm 221 22),xG 218 true (xI 222 220 221 2),xG 218 true (xL 223 222 2),xG 218 true (xa 224 15 8 1),xG 218 true (xl 225 224 1),xG 218 true (xm 226 23),xG 218 true (xI 227 225 226 2),xG 218 true (xL 228 227 2),xG 218 true (xp 229 (.eqA false [0,0] (xt 223) (xt 228))),xN 230 218 229,xm 34 230]
def Hz:=[xm 231 33,xm 232 231,xG 232 true (xm 233 34),xG 232 true (xT 234 233),xN 235 232 234]
def zY:=[xw 8 false]
def Hy:=[xm 236 33]
def Hx:=[xm 237 21,xC 238 .add 237 1,xm 21 238]
def Hw:=[xm 239 34]
def Hv:=[xm 240 22,xC 241 .add 240 1,xm 22 241]
def ZE:=[xm 94 23,xC 95 .add 94 1,xm 23 95]
def uO:AC:=.seq (xS ZF [9,10,13,14,15,17,19,21,22,23,93] (xD 93 0)) (.seq (.block 1 (xS ZD [9,10,13,14,15,17,19,21,22,23,24] (.seq (xS ZC [9,10,13,14,15,17,19,21,22,23,24,25] (.block 2 (.loop uM))) (.seq (.regD H6 [9,10,13,14,15,17,19,21,22,23,24,33] (xK [[],[],[1],[2],[0,3],[4],[5],[6],[5],[7,8],[9],[5],[11],[5],[12,13],[14],[10,15],[16],[17]])) (xQ H5 [9,10,13,14,15,17,19,21,22,23,33,212] 212 (xE zZ [8]) (.seq (.regD H4 [9,10,13,14,15,17,19,21,22,23,33,34] (xK [[],[],[1],[2],[0,3],[4],[5],[6],[5],[7,8],[9],[5],[11],[5],[12,13],[14],[10,15],[16],[17]])) (xQ Hz [9,10,13,14,15,17,19,21,22,23,33,34,235] 235 (xE zY [8]) (xQ Hy [9,10,13,14,15,17,19,21,22,23,34,236] 236 (.reg Hx [9,10,13,14,15,17,19,21,22,23,34]) (xS Hw [9,10,13,14,15,17,19,21,22,23,239] (.cond (xt 239) (.reg Hv [9,10,13,14,15,17,19,21,22,23]) .skip)))))))))) (.reg ZE [9,10,13,14,15,17,19,21,22,23]))
def ZA:=[xm 242 21,xa 243 17 8 1,xl 244 243 1,xA 245 244,xB 246 .eql 242 245,xm 247 246,xG 247 true (xm 248 22),xG 247 true (xa 249 19 8 1),xG 247 true (xl 250 249 1),xG 247 true (xA 251 250),xG 247 true (xB 252 .eql 248 251),xN 253 247 252,xm 254 253,xG 254 true (x0 255 20),xN 256 254 255,xm 8 256]
def c4:AC:=xS AD4 [0,1,2,3] (xS AD3 [0,1,2,3,9] (xS AD2 [1,2,3,9,10] (xS AD1 [1,2,3,9,10,11,12] (xQ AD0 [1,2,3,9,10,11,50] 50 (xE ALo [8]) (xS ADz [2,3,9,10,11,13] (xS ADy [3,9,10,11,13,14] (xS ADx [3,9,10,11,13,14,15,16] (xS ADw [3,9,10,11,13,14,15,16,17,18] (.seq (.regA ZK [9,10,13,14,15,16,17,18,19,20] (xK [[],[],[],[],[3],[2,4],[0,1,5],[6],[7],[7],[],[8,10],[9,11]]) (.take 0 (.take 1 (.take 2 (.take 3 (.take 4 (.take 5 (.pick (.alt 6 (.take 7 (.take 8 (.take 9 (.take 10 tq139)))) (.alt 10 (.take 6 (.take 7 (.take 8 (.take 9 tq139)))) .none)))))))))) (xQ ZJ [9,10,13,14,15,17,19,88] 88 (xE zn [8]) (xS ZI [9,10,13,14,15,17,19,21] (xS ZH [9,10,13,14,15,17,19,21,22] (.seq (xS ZG [9,10,13,14,15,17,19,21,22,23] (.block 0 (.loop uO))) (xE ZA [8]))))))))))))))
def c4R:List AR:=[.t 8]
theorem k4:AU 4 4 c4 c4R:=by kernel_rfl
def ABD:=[xo (.alloc 6 [.own 3 1 [],.own 171 3 [],.own 58 3 []])]
def ABC:=[xn 10 0,xm 11 1,xm 12 2,xc 13 60 [(xt 10),(xi 0),(xt 11),(xt 12)],xn 9 13,xe 14 9 0,xe 15 9 1,xo (.alloc 7 [.own 3 1 [],.own 171 3 [],.own 58 3 []]),xs 7 14 3,xm 8 15]
def ABB:=[xL 16 7 3,xs 6 16 3]
def c21:AC:=xS ABD [0,1,2,6] (xS ABC [6,7] (xE ABB [6]))
def ANh:List AR:=[.c 6 3 true]
theorem k21:AU 21 3 c21 ANh:=by kernel_rfl
def AA6:=[xx 3 1,xo (.alloc 4 [xz,xz,xz,xz,.own 3 1 [],.own 171 3 [],.own 58 3 [],.own 74 8 [],.own 76 2 [],.own 3 1 [],.own 47 1 [],.own 47 1 [],.own 5 1 []]),xv 5 0]
def AA5:=[xm 6 0,xL 7 3 3,x1 8 62 7,xp 9 (.build [xz,xz,xz,xz,.nil 3 1,.nil 171 3,.nil 58 3,.nil 74 8,.nil 76 2,.nil 3 1,.nil 47 1,.nil 47 1,.nil 5 1] [(0,1,(xi 1)),(4,3,(xt 8))]),xo (.callN (some 10) (xf 61) [(xt 6),(xt 9)]),xe 11 10 0,xe 12 10 1,xs 4 11 13,xm 5 12]
def c22:AC:=xS AA6 [0,3,4] (xE AA5 [4,5])
def ANb:List AR:=[.c 4 13 true,.t 5]
theorem k22:AU 22 2 c22 ANb:=by kernel_rfl
def AA3:=[xx 4 1,xo (.alloc 6 [xz,xz,xz,xz,.own 3 1 [],.own 171 3 [],.own 58 3 [],.own 74 8 [],.own 76 2 [],.own 3 1 [],.own 47 1 [],.own 47 1 [],.own 5 1 []]),xv 7 0]
def AA2:=[xm 11 0,xL 12 4 3,x2 13 22 11 12,xn 10 13,xe 14 10 0,xe 15 10 1,xo (.alloc 8 [xz,xz,xz,xz,.own 3 1 [],.own 171 3 [],.own 58 3 [],.own 74 8 [],.own 76 2 [],.own 3 1 [],.own 47 1 [],.own 47 1 [],.own 5 1 []]),xs 8 14 13,xm 9 15]
def AA1:=[xm 16 9,xC 17 .neq 16 0]
def ANW:=[xp 18 (.build [xz,xz,xz,xz,.nil 3 1,.nil 171 3,.nil 58 3,.nil 74 8,.nil 76 2,.nil 3 1,.nil 47 1,.nil 47 1,.nil 5 1] []),xm 19 9,xs 6 18 13,xm 7 19]
def AA0:=[xm 20 2,xC 21 .lss 20 0,xm 22 21,xG 22 false (xm 23 2),xG 22 false (xC 24 .gtr 23 131072),xO 25 22 24]
def ANV:=[xp 26 (.build [xz,xz,xz,xz,.nil 3 1,.nil 171 3,.nil 58 3,.nil 74 8,.nil 76 2,.nil 3 1,.nil 47 1,.nil 47 1,.nil 5 1] []),xs 6 26 13,xv 7 5]
def AAz:=[xm 27 0,xL 28 4 3,x1 29 62 28,xm 30 2,xp 31 (.build [xz,xz,xz,xz,.nil 3 1,.nil 171 3,.nil 58 3,.nil 74 8,.nil 76 2,.nil 3 1,.nil 47 1,.nil 47 1,.nil 5 1] [(0,1,(xi 3)),(4,3,(xt 29)),(3,1,(xt 30))]),xo (.callN (some 32) (xf 61) [(xt 27),(xt 31)]),xe 33 32 0,xe 34 32 1,xs 6 33 13,xm 7 34]
def c23:AC:=xS AA3 [0,2,4,6] (.seq (xS AA2 [0,2,4,6,9] (xS AA1 [0,2,4,6,9,17] (.cond (xt 17) (xE ANW [6,7]) .skip))) (xQ AA0 [0,2,4,6,25] 25 (xE ANV [6,7]) (xE AAz [6,7])))
def ANX:List AR:=[.c 6 13 true,.t 7]
theorem k23:AU 23 3 c23 ANX:=by kernel_rfl
def yz:=[xo (.alloc 8 [.own 3 1 [],.own 171 3 [],.own 58 3 []]),xv 9 0]
def yy:=[xp 20 (.build [.nil 3 1,.nil 171 3,.nil 58 3] []),xo (.alloc 10 [.own 3 1 [],.own 171 3 [],.own 58 3 []]),xs 10 20 3]
def yx:=[xm 21 0,xm 22 1,xc 23 47 [(xt 21),(xt 22),(xi 1048576)],xm 11 23]
def yw:=[xm 24 1,xC 25 .add 24 1,xm 1 25]
def yv:=[xv 12 0]
def yu:=[xm 26 12,xm 27 2,xB 28 .lss 26 27]
def yt:=[xm 31 11,xm 32 12,xC 33 .rem 32 20,xp 34 (.cint .u64 (xt 33)),xB 35 .shr 31 34,xC 36 .rem 35 3,xC 37 .eql 36 1]
def yr:=[xa 38 10 0 1,xo (.take 39 (xt 38)),xm 40 12,xo (.bsl 41 3 1 [(xt 40)]),xo (.app 42 (xu 39) (xt 41) 3 1 8),xa 43 10 0 1,xo (.store (xt 43) (xu 42) 1)]
def YJ:=[xm 29 12,xC 30 .add 29 1,xm 12 30]
def Ya:AC:=.seq (xS yu [0,1,2,3,8,10,11,12,28] (xD 28 0)) (.seq (.block 1 (xS yt [0,1,2,3,8,10,11,12,37] (.cond (xt 37) (.reg yr [0,1,2,3,8,10,11,12]) .skip))) (.reg YJ [0,1,2,3,8,10,11,12]))
def yq:=[xv 13 0]
def YX:=[xm 44 13,xC 45 .lss 44 3]
def YW:=[xm 48 0,xm 49 1,xc 50 47 [(xt 48),(xt 49),(xi 1048576)],xm 14 50]
def YV:=[xm 51 14,xC 52 .rem 51 3,xC 53 .eql 52 0]
def YU:=[xp 54 (.build [xz,xz] [(0,1,(xi 0)),(1,1,(xi 1))]),xp 55 (.build [xz,xz] [(0,1,(xi 1)),(1,1,(xi 1))]),xp 56 (.build [xz,xz] [(0,1,(xi 1)),(1,1,(xi 2))]),xp 57 (.build [xz,xz] [(0,1,(xi 3)),(1,1,(xi 2))]),xp 58 (.build [xz,xz] [(0,1,(xi 2)),(1,1,(xi 1))]),xp 59 (.build [xz,xz] [(0,1,(.c (.v (.int .i64 (-1))))),(1,1,(xi 1))]),xp 60 (.build [xz,xz] [(0,1,(xi 5)),(1,1,(xi 1))]),xp 61 (.build [xz,xz] [(0,1,(xi 7)),(1,1,(xi 3))]),xo (.bsl 62 133 2 [(xt 54),(xt 55),(xt 56),(xt 57),(xt 58),(xt 59),(xt 60),(xt 61)]),xm 63 14,xC 64 .quo 63 3,xC 65 .rem 64 8,xI 66 62 65 2,xL 67 66 2,xo (.alloc 15 [xz,xz]),xs 15 67 2]
def YT:=[xa 68 10 1 1,xo (.take 69 (xt 68)),xm 70 13,xL 71 15 2,xp 72 (.build [xz,xz,xz] [(0,1,(xt 70)),(1,2,(xt 71))]),xo (.bsl 73 171 3 [(xt 72)]),xo (.app 74 (xu 69) (xt 73) 171 3 24),xa 75 10 1 1,xo (.store (xt 75) (xu 74) 1)]
def Pj:=[xm 76 1,xC 77 .add 76 1,xm 1 77]
def Pk:=[xm 46 13,xC 47 .add 46 1,xm 13 47]
def YZ:AC:=.seq (xS YX [0,1,2,3,8,10,13,45] (xD 45 2)) (.seq (.block 3 (xS YW [0,1,2,3,8,10,13,14] (xQ YV [0,1,2,3,8,10,13,14,53] 53 (xS YU [0,1,2,3,8,10,13,15] (.reg YT [0,1,2,3,8,10,13])) (.reg Pj [0,1,2,3,8,10,13])))) (.reg Pk [0,1,2,3,8,10,13]))
def YS:=[xm 78 0,xm 79 1,xc 80 47 [(xt 78),(xt 79),(xi 4)],xm 16 80]
def YR:=[xm 81 1,xC 82 .add 81 1,xm 1 82]
def YQ:=[xv 17 0]
def YP:=[xm 83 17,xm 84 16,xB 85 .lss 83 84,xm 86 85,xG 86 true (xm 87 3),xG 86 true (xC 88 .gtr 87 1),xN 89 86 88,xm 90 89,xG 90 true (xm 91 1),xG 90 true (xm 92 0),xG 90 true (xA 93 92),xG 90 true (xB 94 .lss 91 93),xN 95 90 94]
def YN:=[xm 99 0,xm 100 1,xm 101 2,xm 102 3,xC 103 .sub 102 1,xc 104 60 [(xt 99),(xt 100),(xt 101),(xt 103)],xn 98 104,xe 105 98 0,xe 106 98 1,xo (.alloc 18 [.own 3 1 [],.own 171 3 [],.own 58 3 []]),xs 18 105 3,xm 19 106]
def YM:=[xa 107 10 2 1,xo (.take 108 (xt 107)),xL 109 18 3,xo (.bsl 110 58 3 [(xt 109)]),xo (.app 111 (xu 108) (xt 110) 58 3 72),xa 112 10 2 1,xo (.store (xt 112) (xu 111) 1)]
def YL:=[xm 113 19,xm 1 113]
def YO:=[xm 96 17,xC 97 .add 96 1,xm 17 97]
def YY:AC:=.seq (xS YP [0,1,2,3,8,10,16,17,95] (xD 95 4)) (.seq (.block 5 (xS YN [0,2,3,8,10,16,17,18,19] (xS YM [0,2,3,8,10,16,17,19] (.reg YL [0,1,2,3,8,10,16,17])))) (.reg YO [0,1,2,3,8,10,16,17]))
def YK:=[xL 114 10 3,xm 115 1,xs 8 114 3,xm 9 115]
def c60:AC:=xS yz [0,1,2,3,8] (xS yy [0,1,2,3,8,10] (xS yx [0,1,2,3,8,10,11] (xS yw [0,1,2,3,8,10,11] (.seq (xS yv [0,1,2,3,8,10,11,12] (.block 0 (.loop Ya))) (.seq (xS yq [0,1,2,3,8,10,13] (.block 2 (.loop YZ))) (xS YS [0,1,2,3,8,10,16] (xS YR [0,1,2,3,8,10,16] (.seq (xS YQ [0,1,2,3,8,10,16,17] (.block 4 (.loop YY))) (xE YK [8,9])))))))))
def ALg:List AR:=[.c 8 3 true,.t 9]
theorem k60:AU 60 4 c60 ALg:=by kernel_rfl
def W1:List GI:=[⟨none,.alloc 4 [.v (.int .i64 0),.v (.int .i64 0),.own 368 8 [],.own 84 4 []]⟩]
def W0:List GI:=[⟨none,.mv 11 (.t 1 false)⟩,
 ⟨none,.p 12 (.nilc (.t 11 false))⟩,
 ⟨none,.p 13 (.load (.t 12 false) 1 false)⟩,
 ⟨none,.p 14 (.bin .sub (.t 13 false) (.c (.v (.int .i64 1))))⟩,
 ⟨none,.p 15 (.nilc (.t 11 false))⟩,
 ⟨none,.store (.t 15 false) (.t 14 false) 1⟩]
def Wz:List GI:=[⟨none,.mv 16 (.t 0 false)⟩,
 ⟨none,.call (some 17) (.c (.v (.func 45 []))) [(.t 16 false)]⟩,
 ⟨none,.mv 18 (.t 0 false)⟩,
 ⟨none,.call (some 19) (.c (.v (.func 45 []))) [(.t 18 false)]⟩,
 ⟨none,.p 20 (.build [.v (.int .i64 0),.v (.int .i64 0),.nil 368 8,.nil 84 4] [(0,1,(.t 17 false)),(1,1,(.t 19 false))])⟩,
 ⟨none,.alloc 5 [.v (.int .i64 0),.v (.int .i64 0),.own 368 8 [],.own 84 4 []]⟩,
 ⟨none,.store (.t 5 false) (.t 20 false) 4⟩]
def Wy:List GI:=[⟨none,.mv 21 (.t 0 false)⟩,
 ⟨none,.call (some 22) (.c (.v (.func 45 []))) [(.t 21 false)]⟩,
 ⟨none,.mv 6 (.t 22 false)⟩]
def Wx:List GI:=[⟨none,.mv 7 (.c (.v (.int .i64 0)))⟩]
def PR:List GI:=[⟨none,.mv 23 (.t 7 false)⟩,
 ⟨none,.mv 24 (.t 6 false)⟩,
 ⟨none,.p 25 (.bin .lss (.t 23 false) (.t 24 false))⟩,
 ⟨none,.mv 26 (.t 25 false)⟩,
 ⟨(some (26,true)),.mv 27 (.t 6 false)⟩,
 ⟨(some (26,true)),.p 28 (.bin .leq (.t 27 false) (.c (.v (.int .i64 32))))⟩,
 ⟨none,.p 29 (.pick (.t 26 false) (.t 28 false) (.c (.v (.bool false))))⟩,
 ⟨none,.mv 30 (.t 29 false)⟩,
 ⟨(some (30,true)),.mv 31 (.t 1 false)⟩,
 ⟨(some (30,true)),.p 32 (.nilc (.t 31 false))⟩,
 ⟨(some (30,true)),.p 33 (.load (.t 32 false) 1 false)⟩,
 ⟨(some (30,true)),.p 34 (.bin .geq (.t 33 false) (.c (.v (.int .i64 0))))⟩,
 ⟨none,.p 35 (.pick (.t 30 false) (.t 34 false) (.c (.v (.bool false))))⟩]
def Wv:List GI:=[⟨none,.mv 38 (.t 0 false)⟩,
 ⟨none,.call (some 39) (.c (.v (.func 114 []))) [(.t 38 false)]⟩,
 ⟨none,.mv 8 (.t 39 true)⟩]
def Wu:List GI:=[⟨none,.mv 40 (.t 8 false)⟩,
 ⟨none,.p 41 (.alen (.t 40 false))⟩,
 ⟨none,.p 42 (.bin .neq (.t 41 false) (.c (.v (.int .i64 8))))⟩]
def ADQ:List GI:=[⟨none,.mv 43 (.t 1 false)⟩,
 ⟨none,.p 44 (.nilc (.t 43 false))⟩,
 ⟨none,.store (.t 44 false) (.c (.v (.int .i64 (-1)))) 1⟩]
def uG:List GI:=[⟨none,.p 45 (.load (.t 5 false) 4 true)⟩,
 ⟨none,.store (.t 4 false) (.t 45 false) 4⟩]
def Sz:List GI:=[⟨none,.p 46 (.faddr (.t 5 false) 2 1)⟩,
 ⟨none,.take 47 (.t 46 false)⟩,
 ⟨none,.mv 48 (.t 8 false)⟩,
 ⟨none,.p 49 (.iaddr (.t 48 false) (.c (.v (.int .i64 0))) 1)⟩,
 ⟨none,.p 50 (.load (.t 49 false) 1 false)⟩,
 ⟨none,.mv 51 (.t 8 false)⟩,
 ⟨none,.p 52 (.iaddr (.t 51 false) (.c (.v (.int .i64 1))) 1)⟩,
 ⟨none,.p 53 (.load (.t 52 false) 1 false)⟩,
 ⟨none,.p 54 (.build [.v (.int .i64 0),.v (.int .i64 0)] [(0,1,(.t 50 false)),(1,1,(.t 53 false))])⟩,
 ⟨none,.mv 55 (.t 8 false)⟩,
 ⟨none,.p 56 (.iaddr (.t 55 false) (.c (.v (.int .i64 2))) 1)⟩,
 ⟨none,.p 57 (.load (.t 56 false) 1 false)⟩,
 ⟨none,.mv 58 (.t 8 false)⟩,
 ⟨none,.p 59 (.iaddr (.t 58 false) (.c (.v (.int .i64 3))) 1)⟩,
 ⟨none,.p 60 (.load (.t 59 false) 1 false)⟩,
 ⟨none,.p 61 (.build [.v (.int .i64 0),.v (.int .i64 0)] [(0,1,(.t 57 false)),(1,1,(.t 60 false))])⟩,
 ⟨none,.mv 62 (.t 8 false)⟩,
 ⟨none,.p 63 (.iaddr (.t 62 false) (.c (.v (.int .i64 4))) 1)⟩,
 ⟨none,.p 64 (.load (.t 63 false) 1 false)⟩,
 ⟨none,.p 65 (.bin .eql (.t 64 false) (.c (.v (.int .i64 1))))⟩,
 ⟨none,.mv 66 (.t 8 false)⟩,
 ⟨none,.p 67 (.iaddr (.t 66 false) (.c (.v (.int .i64 5))) 1)⟩,
 ⟨none,.p 68 (.load (.t 67 false) 1 false)⟩,
 ⟨none,.p 69 (.bin .eql (.t 68 false) (.c (.v (.int .i64 1))))⟩,
 ⟨none,.mv 70 (.t 8 false)⟩,
 ⟨none,.p 71 (.iaddr (.t 70 false) (.c (.v (.int .i64 6))) 1)⟩,
 ⟨none,.p 72 (.load (.t 71 false) 1 false)⟩,
 ⟨none,.p 73 (.bin .eql (.t 72 false) (.c (.v (.int .i64 1))))⟩,
 ⟨none,.mv 74 (.t 8 false)⟩,
 ⟨none,.p 75 (.iaddr (.t 74 false) (.c (.v (.int .i64 7))) 1)⟩,
 ⟨none,.p 76 (.load (.t 75 false) 1 false)⟩,
 ⟨none,.p 77 (.bin .eql (.t 76 false) (.c (.v (.int .i64 1))))⟩,
 ⟨none,.p 78 (.build [.v (.int .i64 0),.v (.int .i64 0),.v (.int .i64 0),.v (.int .i64 0),.v (.bool false),.v (.bool false),.v (.bool false),.v (.bool false)] [(0,2,(.t 54 false)),(2,2,(.t 61 false)),(4,1,(.t 65 false)),(5,1,(.t 69 false)),(6,1,(.t 73 false)),(7,1,(.t 77 false))])⟩,
 ⟨none,.bsl 79 368 8 [(.t 78 false)]⟩,
 ⟨none,.app 80 (.t 47 true) (.t 79 false) 368 8 40⟩,
 ⟨none,.p 81 (.faddr (.t 5 false) 2 1)⟩,
 ⟨none,.store (.t 81 false) (.t 80 true) 1⟩]
def Ww:List GI:=[⟨none,.mv 36 (.t 7 false)⟩,
 ⟨none,.p 37 (.bin .add (.t 36 false) (.c (.v (.int .i64 1))))⟩,
 ⟨none,.mv 7 (.t 37 false)⟩]
def KK:AC:=(.seq (.seq (.reg PR [0,1,4,5,6,7,35]) (.cond (.t 35 false) .skip (.exit 0))) (.seq (.block 1 (.seq (.reg Wv [0,1,4,5,6,7,8]) (.seq (.seq (.reg Wu [0,1,4,5,6,7,8,42]) (.cond (.t 42 false) (.seq (.reg ADQ [4,5]) (.seq (.reg uG [4]) .ret)) .skip)) (.regD Sz [0,1,4,5,6,7] [[],[0],[],[2],[2,3],[],[5],[5,6],[2,3,4,5,6,7],[],[9],[9,10],[],[12],[12,13],[9,10,11,12,13,14],[],[16],[16,17],[16,17,18],[],[20],[20,21],[20,21,22],[],[24],[24,25],[24,25,26],[],[28],[28,29],[28,29,30],[2,3,4,5,6,7,8,9,10,11,12,13,14,15,16,17,18,19,20,21,22,23,24,25,26,27,28,29,30,31],[2,3,4,5,6,7,8,9,10,11,12,13,14,15,16,17,18,19,20,21,22,23,24,25,26,27,28,29,30,31,32],[0,1,2,3,4,5,6,7,8,9,10,11,12,13,14,15,16,17,18,19,20,21,22,23,24,25,26,27,28,29,30,31,32,33],[0,1,2,3,4,5,6,7,8,9,10,11,12,13,14,15,16,17,18,19,20,21,22,23,24,25,26,27,28,29,30,31,32,33,34],[0,1,2,3,4,5,6,7,8,9,10,11,12,13,14,15,16,17,18,19,20,21,22,23,24,25,26,27,28,29,30,31,32,33,34,35]])))) (.reg Ww [0,1,4,5,6,7])))
def Sy:List GI:=[⟨none,.mv 82 (.t 0 false)⟩,
 ⟨none,.call (some 83) (.c (.v (.func 45 []))) [(.t 82 false)]⟩,
 ⟨none,.mv 9 (.t 83 false)⟩]
def Sx:List GI:=[⟨none,.mv 84 (.t 6 false)⟩,
 ⟨none,.p 85 (.faddr (.t 5 false) 2 1)⟩,
 ⟨none,.p 86 (.load (.t 85 false) 1 false)⟩,
 ⟨none,.p 87 (.alen (.t 86 false))⟩,
 ⟨none,.p 88 (.bin .neq (.t 84 false) (.t 87 false))⟩,
 ⟨none,.mv 89 (.t 88 false)⟩,
 ⟨(some (89,false)),.mv 90 (.t 9 false)⟩,
 ⟨(some (89,false)),.p 91 (.bin .lss (.t 90 false) (.c (.v (.int .i64 0))))⟩,
 ⟨none,.p 92 (.pick (.t 89 false) (.c (.v (.bool true))) (.t 91 false))⟩,
 ⟨none,.mv 93 (.t 92 false)⟩,
 ⟨(some (93,false)),.mv 94 (.t 9 false)⟩,
 ⟨(some (93,false)),.mv 95 (.t 1 false)⟩,
 ⟨(some (93,false)),.p 96 (.nilc (.t 95 false))⟩,
 ⟨(some (93,false)),.p 97 (.load (.t 96 false) 1 false)⟩,
 ⟨(some (93,false)),.p 98 (.bin .gtr (.t 94 false) (.t 97 false))⟩,
 ⟨none,.p 99 (.pick (.t 93 false) (.c (.v (.bool true))) (.t 98 false))⟩]
def uF:List GI:=[⟨none,.mv 100 (.t 1 false)⟩,
 ⟨none,.p 101 (.nilc (.t 100 false))⟩,
 ⟨none,.store (.t 101 false) (.c (.v (.int .i64 (-1)))) 1⟩]
def Sw:List GI:=[⟨none,.mv 10 (.c (.v (.int .i64 0)))⟩]
def MR:List GI:=[⟨none,.mv 102 (.t 10 false)⟩,
 ⟨none,.mv 103 (.t 9 false)⟩,
 ⟨none,.p 104 (.bin .lss (.t 102 false) (.t 103 false))⟩,
 ⟨none,.mv 105 (.t 104 false)⟩,
 ⟨(some (105,true)),.mv 106 (.t 1 false)⟩,
 ⟨(some (105,true)),.p 107 (.nilc (.t 106 false))⟩,
 ⟨(some (105,true)),.p 108 (.load (.t 107 false) 1 false)⟩,
 ⟨(some (105,true)),.p 109 (.bin .geq (.t 108 false) (.c (.v (.int .i64 0))))⟩,
 ⟨none,.p 110 (.pick (.t 105 false) (.t 109 false) (.c (.v (.bool false))))⟩]
def Sv:List GI:=[⟨none,.p 113 (.faddr (.t 5 false) 3 1)⟩,
 ⟨none,.take 114 (.t 113 false)⟩,
 ⟨none,.mv 115 (.t 0 false)⟩,
 ⟨none,.mv 116 (.t 1 false)⟩,
 ⟨none,.callF (some 117) (.c (.v (.func 320 []))) [(.t 115 false),(.t 116 false)]⟩,
 ⟨none,.bsl 118 84 4 [(.t 117 false)]⟩,
 ⟨none,.app 119 (.t 114 true) (.t 118 false) 84 4 64⟩,
 ⟨none,.p 120 (.faddr (.t 5 false) 3 1)⟩,
 ⟨none,.store (.t 120 false) (.t 119 true) 1⟩]
def MQ:List GI:=[⟨none,.mv 111 (.t 10 false)⟩,
 ⟨none,.p 112 (.bin .add (.t 111 false) (.c (.v (.int .i64 1))))⟩,
 ⟨none,.mv 10 (.t 112 false)⟩]
def KJ:AC:=(.seq (.seq (.reg MR [0,1,4,5,9,10,110]) (.cond (.t 110 false) .skip (.exit 2))) (.seq (.block 3 (.regA Sv [0,1,4,5,9,10] [[],[0],[],[],[2,3],[2,3,4],[0,1,2,3,4,5],[0,1,2,3,4,5,6],[0,1,2,3,4,5,6,7]] (.take 0 (.take 2 (.take 3 (.pick (.alt 1 (.take 4 (.take 5 (.take 6 (.take 7 (.take 8 .done))))) (.alt 4 (.take 1 (.take 5 (.take 6 (.take 7 (.take 8 .done))))) .none)))))))) (.reg MQ [0,1,4,5,9,10])))
def Su:List GI:=[⟨none,.p 121 (.load (.t 5 false) 4 true)⟩,
 ⟨none,.store (.t 4 false) (.t 121 false) 4⟩]
def AKN:AC:=(.seq (.reg W1 [0,1,4]) (.seq (.reg W0 [0,1,4]) (.seq (.reg Wz [0,1,4,5]) (.seq (.reg Wy [0,1,4,5,6]) (.seq (.seq (.reg Wx [0,1,4,5,6,7]) (.block 0 (.loop KK))) (.seq (.reg Sy [0,1,4,5,6,9]) (.seq (.seq (.reg Sx [0,1,4,5,9,99]) (.cond (.t 99 false) (.reg uF [0,1,4,5,9]) .skip)) (.seq (.seq (.reg Sw [0,1,4,5,9,10]) (.block 2 (.loop KJ))) (.seq (.reg Su [4]) .ret)))))))))
def wY:List AR:=[.c 4 4 true]
theorem AQ2:DT Tryz.prog GLx 320 2 AKN wY=true:=by kernel_rfl
def YE:=[xx 1 0,xo (.alloc 2 [.own 3 1 [],.own 171 3 [],.own 58 3 []])]
def YD:=[xa 6 1 0 1,xl 7 6 1,xA 8 7,xo (.mksz 9 (xt 8) [xz]),xa 10 1 1 1,xl 11 10 1,xA 12 11,xo (.mksz 13 (xt 12) [xz,xz,xz]),xa 14 1 2 1,xl 15 14 1,xA 16 15,xo (.mksz 17 (xt 16) [.own 3 1 [],.own 171 3 [],.own 58 3 []]),xp 18 (.build [.nil 3 1,.nil 171 3,.nil 58 3] [(0,1,(xt 9)),(1,1,(xt 13)),(2,1,(xt 17))]),xo (.alloc 3 [.own 3 1 [],.own 171 3 [],.own 58 3 []]),xs 3 18 3]
def YC:=[xa 19 3 0 1,xl 20 19 1,xa 21 1 0 1,xl 22 21 1,xo (.cpy (some 23) (xt 20) (xt 22) 1)]
def YB:=[xa 24 3 1 1,xl 25 24 1,xa 26 1 1 1,xl 27 26 1,xo (.cpy (some 28) (xt 25) (xt 27) 3)]
def YA:=[xa 29 1 2 1,xl 30 29 1,xA 31 30,xv 32 0]
def yf:=[xB 33 .lss 32 31]
def ye:=[xm 34 32,xI 35 30 32 3,xL 36 35 3,xo (.alloc 5 [.own 3 1 [],.own 171 3 [],.own 58 3 []]),xm 4 34,xs 5 36 3]
def yd:=[xa 37 3 2 1,xl 38 37 1,xm 39 4,xL 40 5 3,x1 41 62 40,xI 42 38 39 3,xs 42 41 3]
def yc:=[xC 43 .add 32 1,xm 32 43]
def S8:AC:=xS yf [2,3,30,31,32,33] (.seq (xD 33 0) (.seq (.block 1 (xS ye [2,3,4,5,30,31,32] (.regD yd [2,3,30,31,32] (xK [[],[0],[],[],[3],[1,2,4],[5]])))) (.reg yc [2,3,30,31,32])))
def X0:=[xL 44 3 3,xs 2 44 3]
def c62:AC:=xS YE [1,2] (.seq (.regA YD [1,2,3] (xK [[],[0],[1],[2],[],[4],[5],[6],[],[8],[9],[10],[3,7,11],[],[12,13]]) (.take 0 (.take 1 (.take 2 (.take 4 (.take 5 (.take 6 (.take 8 (.take 9 (.take 10 (.pick (.alt 3 (.pick (.alt 7 tq142 (.alt 11 tq144 (.alt 13 tq145 .none)))) (.alt 7 (.pick (.alt 3 tq142 (.alt 11 tq147 (.alt 13 tq148 .none)))) (.alt 11 (.pick (.alt 3 tq144 (.alt 7 tq147 (.alt 13 tq149 .none)))) (.alt 13 (.pick (.alt 3 tq145 (.alt 7 tq148 (.alt 11 tq149 .none)))) .none))))))))))))))) (xS YC [1,2,3] (xS YB [1,2,3] (.seq (xS YA [2,3,30,31,32] (.block 0 (.loop S8))) (xE X0 [2])))))
def ALe:List AR:=[.c 2 3 true]
theorem k62:AU 62 1 c62 ALe:=by kernel_rfl
def Iv (A B R:Row) (xs:List Int):List Row:=[A,wr xs,.cells [.ref 1 0],B,R]
theorem Sl {x:Ivl} (hx:x.ok):∀n∈[x.ln,x.ld,x.hn,x.hd,b01 x.lo,b01 x.ho,b01 x.li,b01 x.hi],i64 n:=by
 intro n hn;simp at hn;rcases hn with rfl|rfl|rfl|rfl|rfl|rfl|rfl|rfl
 ·exact hx.1
 ·exact hx.2.1
 ·exact hx.2.2.1
 ·exact hx.2.2.2
 all_goals exact vV _
def Ivl.row (x:Ivl):Row:= .cells [.v (.int .i64 x.ln),.v (.int .i64 x.ld),.v (.int .i64 x.hn),.v (.int .i64 x.hd),.v (.bool x.lo),.v (.bool x.ho),.v (.bool x.li),.v (.bool x.hi)]
theorem ARJ (A B R:Row) (ins:List Ivl) (hins:∀x∈ins,x.ok) (hl:ins.length≤2^40) (xs:List Int) (hb:xs.length+(ins.flatMap Ct).length≤2^43) (d6:D) (J:List Row):
  awp Tryz.prog GLx (.loop Q1) (λe s=>e= .exit 2∧AH s.e 5= .ref 2 0∧AH s.e 6=d6∧s.h=Iv A B R (xs++ins.flatMap Ct)++(J++ins.map Ivl.row))
   ⟨[(5,.ref 2 0),(6,d6),(33,.v (.list (ins.map Ivl.V))),(34,.v (.int .i64 ins.length)),(35,.v (.int .i64 0))],Iv A B R xs++J⟩:=by
 refine Ae ins.length (λk s=>s.e=[(5,.ref 2 0),(6,d6),(33,.v (.list (ins.map Ivl.V))),(34,.v (.int .i64 ins.length)),(35,.v (.int .i64 k))]∧s.h=Iv A B R (xs++(ins.take k).flatMap Ct)++(J++(ins.map Ivl.row).take k)) ⟨rfl,by simp⟩ ?_;rintro k ⟨se,sh⟩ hk ⟨he,hh⟩;simp only at he hh;subst he hh;simp only[Q1,AB,AA,AF,AE,Tv];simp;by_cases hlt:k <ins.length
 ·obtain⟨x,hx⟩:∃x,ins[k]?=some x:=⟨_,ATo hlt⟩;have hxe:ins[k]=x:=(ATp.1 hx).2;have ox:=hins x (ATq hx);have hw:IntKind.i64.wrap ((k:Int)+1)=k+1:=AJ;rw[if_pos (by omega),AD];simp only[AA,Aa,Tu,Tt];simp[hx,Ivl.V,AO,Iv];refine⟨_,_,⟨rfl,rfl⟩,_,tW x.lo,_,_,⟨rfl,rfl⟩,_,tW x.ho,_,_,⟨rfl,rfl⟩,_,tW x.li,_,_,⟨rfl,rfl⟩,_,tW x.hi,?_⟩;simp;have hle:=Gl ins Ct (k+1);rw[DC hlt,hxe,ATr]at hle;have hp:=λh hr=>ACs [x.ln,x.ld,x.hn,x.hd,b01 x.lo,b01 x.ho,b01 x.li,b01 x.hi] (Sl ox) (by simp) h 1 (xs++(ins.take k).flatMap Ct) hr (by rw[ATr];omega);simp[AL]at hp;refine⟨_,_,hp _ rfl,?_⟩;have htk:ins.take (k+1)=ins.take k++[x]:=by rw[AUx hlt,hxe]
  have htr:(ins.map Ivl.row).take (k+1)=(ins.map Ivl.row).take k++[x.row]:=by rw[←AUM,htk,AUN,AUM];rfl
  simp[Ts,hw,hlt,htk,-List.map_take];exact⟨rfl,htr.symm⟩
 ·have:k=ins.length:=by omega
  subst this;rw[if_neg (by omega),AM];simp;exact AUG (by simp)
theorem AO8 (A B:Row) (e0:Env) (he:AH e0 5= .ref 2 0) (g:F) (hg:g.ok1) (hk:g.kids.length≤2^40) (xs:List Int) (hb:xs.length+(Cg g).length≤2^43) (J:List Row):
  YSp Tryz.prog GLx 4 [.v g.V] (Iv A B (Ao Tryz.prog GLx .ready e0 [18] FN FM) xs++J) true (Iv A B (Ao Tryz.prog GLx .ready e0 [18] FN FM) (xs++Cg g)++(J++(.cells g.cells::g.ins.map Ivl.row))):=by
 obtain⟨op,n,ins,kids⟩:=g;obtain⟨o1,o2,o3,o4⟩:=hg;simp only[F.op,F.n,F.ins,F.kids]at*;refine Ci (e0:=e0) (ps:=[18]) (asg:=FN) (body:=FM) (by simp[Iv]) rfl ?_;simp only[F.cells,F.op,F.n,F.ins,F.kids,F.V_eq,Cg]at*;simp only[ATr]at hb;have il:i64 (ins.length:Int):=by unfold i64;omega
 have kl:i64 (kids.length:Int):=by unfold i64;omega
 simp only[FZ,FN,FM,AA,AF,AB,jy,jx,jw,jv,Tw];simp[Iv,he,AO];refine⟨_,_,(p98 op o1 _ 1 xs rfl (by omega)),?_⟩;simp;refine⟨_,_,(p98 n o2 _ 1 (xs++Ag op) rfl (by simp;omega)),?_⟩;simp;refine⟨_,_,(p98 ins.length il _ 1 (xs++(Ag op++Ag n)) (by simp) (by simp;omega)),?_⟩;simp;have hl:=ARJ A B (Ao Tryz.prog GLx .busy e0 [18] FN FM) ins o3 o4 (xs++(Ag op++(Ag n++Ag ins.length))) (by simp only[ATr];omega) (.ref (J.length+5) 0) (J++[.cells [.v (.int .i64 op),.v (.int .i64 n),.v (.list (ins.map Ivl.V)),.v (.list (kids.map F.V))]]);simp[Iv]at hl;refine AX _ ?_ hl;rintro e ⟨se,sh⟩ ⟨rfl,h5,h6,hh⟩;simp only at h5 h6 hh;subst hh;simp[Tr,h5,h6];refine⟨_,_,(p98 kids.length kl _ 1 (xs++(Ag op++(Ag n++(Ag ins.length++ins.flatMap Ct)))) (by simp) (by simp only[ATr];omega)),?_⟩;simp[CH];rfl
theorem APB (A B:Row) (e0:Env) (he:AH e0 5= .ref 2 0):∀(ns:List F),(∀g∈ns,g.ok1∧g.kids.length≤2^40)→∀xs:List Int,xs.length+(ns.flatMap Cg).length≤2^43→
  RunY Tryz.prog GLx 4 (ns.map F.V) (Iv A B (Ao Tryz.prog GLx .ready e0 [18] FN FM) xs) true (Iv A B (Ao Tryz.prog GLx .ready e0 [18] FN FM) (xs++ns.flatMap Cg)):=by
 intro ns;induction ns with
 |nil=>intro _ xs _;exact⟨rfl,by simp⟩
 |cons g ns ih=>
  intro hk xs hb;rw[AT8,ATr]at hb;obtain⟨h1,h2⟩:=hk g (by simp);refine⟨true,Iv A B (Ao Tryz.prog GLx .ready e0 [18] FN FM) (xs++Cg g),rfl,λJ=>⟨_,AO8 A B e0 he g h1 h2 xs (by omega) J⟩,?_⟩;have:=ih (λx hx=>hk x (by simp[hx])) (xs++Cg g) (by rw[ATr];omega);rw[AT1]at this;exact this
theorem F.kids_le:∀f:F,∀g∈f.nodes,g.kids.length≤f.size:=by
 refine F.ind λop n ins kids ih g hg=>?_;rw[F.size_eq];rw[F.nodes_eq]at hg;rcases ATt.1 hg with rfl|hg
 ·have:=F.kids_len kids;simp only[F.kids];omega
 ·obtain⟨k,hk,hg⟩:=AUb.1 hg;have:=ih k hk g hg;have:=F.kid_size hk;omega
theorem AIT (f:F) (hok:f.ok) (hb:(B9 f).length≤2^43):PX 232 [f.V] [AL .u8 (if BH f=0 then B9 f else []),.int .i64 (BH f)]:=by
 refine AK ASX rfl ?_;have h1:=(p66 f hok).fsp;have h68:=p68 f;have hsz:=hok.2;have hr:=APB (.cells f.cells) (.cells f.cells) (cpE [(5,.ref 2 0),(17,.func 147 [.ref 3 0])]) rfl f.nodes (λg hg=>⟨hok.1 g hg,by have:=F.kids_le f g hg;omega⟩) [] (by simpa[B9]using hb);obtain⟨J,hp⟩:=ta f hok 4 3 _ _ _ hr rfl;have e0:([]:List Int)++f.nodes.flatMap Cg=B9 f:=rfl;rw[e0]at hp;generalize B9 f=bs at*;generalize BH f=er at*;obtain⟨op,n,ins,kids⟩:=f;simp only[F.cells,F.op,F.n,F.ins,F.kids,F.V_eq]at*;simp only[ANZ,AB,AA,AF,AE,kD,kC,kB,AY];simp at h1 h68;simp;refine⟨_,_,h1 _,?_⟩;by_cases h0:er=0
 ·subst h0;simp[AD,AA,j9,jz,AO];refine⟨_,_,h68 _,?_⟩;simp;refine CV 147 [.ref 3 0] [] _ _ .ready rfl rfl hp rfl ?_;simp[Bo,AA,Tq,Iv];refine⟨_,_,(ACr _ 1 bs rfl (by omega)),?_⟩;simp[AG,kE,AL]
 ·simp[h0,AB,AA,AG,kA,kE,AL]
def BE (h:List Row) (r lw:Nat) (x:List Int) (lf:Int) (a b:Row):List Row:=(h.set r (rdr x)).set lw (.cells [.v (.int .i64 lf)])++[a,b]
section
variable {h:List Row} {r lw:Nat} (hr:r <h.length) (hl:lw <h.length) (hne:r≠lw) (x:List Int) (lf:Int) (a b:Row)
include hr hne
theorem JS:(BE h r lw x lf a b)[r]?=some (rdr x):=by
 unfold BE;rw[AUB (by simpa using hr),AT5 (Ne.symm hne),AUJ (by simpa using hr)]
omit hr hne in
include hl in
theorem JT:(BE h r lw x lf a b)[lw]?=some (.cells [.v (.int .i64 lf)]):=by
 unfold BE;rw[AUB (by simpa using hl),AUJ (by simpa using hl)]
omit hr hne in
theorem tP:(BE h r lw x lf a b)[h.length]?=some a:=by
 unfold BE;rw[AUK (by simp)];simp
omit hr hne in
theorem GP:(BE h r lw x lf a b)[h.length+1]?=some b:=by
 unfold BE;rw[AUK (by simp)];simp
theorem HQ (y:List Int):(BE h r lw x lf a b).set r (rdr y)=BE h r lw y lf a b:=by
 unfold BE;rw[AVa _ _ (by simpa using hr),List.set_comm _ _ (Ne.symm hne),AU6]
omit hr hne in
include hl in
theorem WD (m:Int):(BE h r lw x lf a b).set lw (.cells [.v (.int .i64 m)])=BE h r lw x m a b:=by
 unfold BE;rw[AVa _ _ (by simpa using hl),AU6]
omit hr hne in
theorem WE (c:Row):(BE h r lw x lf a b).set h.length c=BE h r lw x lf c b:=by
 unfold BE;rw[AVb _ _ (by simp)];simp
omit hr hne in
theorem HR (c:Row):(BE h r lw x lf a b).set (h.length+1) c=BE h r lw x lf a c:=by
 unfold BE;rw[AVb _ _ (by simp)];simp
omit hr hne in
theorem IR:(BE h r lw x lf a b).length=h.length+2:=by simp[BE]
end
def rB (op n:Int) (ins:List Ivl) (kids:List F):Row:= .cells [.v (.int .i64 op),.v (.int .i64 n),.own 368 8 (ins.map Ivl.V),.own 84 4 (kids.map F.V)]
theorem AHo (b:Bool):(b01 b==1)=b:=by cases b<;>rfl
theorem AKM {Q:AExit→St→Prop} {h:List Row} {r lw:Nat} (hr:r <h.length) (hl:lw <h.length) (hne:r≠lw) (X:Ivl) (hX:X.ok) (rest:List Int) (hb:rest.length≤2^43) (lf:Int) (hlf:0≤lf) (a:Row) (op m:Int) (ins:List Ivl)
  (n:Nat) (hn:n≤32) (hk:ins.length <n)
  (hQ:Q .normal ⟨[(0,.ref r 0),(1,.ref lw 0),(4,.ref h.length 0),(5,.ref (h.length+1) 0),(6,.v (.int .i64 n)),(7,.v (.int .i64 (ins.length+1)))],BE h r lw rest lf a (rB op m (ins++[X]) [])⟩):
  awp Tryz.prog GLx KK Q ⟨[(0,.ref r 0),(1,.ref lw 0),(4,.ref h.length 0),(5,.ref (h.length+1) 0),(6,.v (.int .i64 n)),(7,.v (.int .i64 ins.length))],BE h r lw (Ct X++rest) lf a (rB op m ins [])⟩:=by
 have k1:(n:Int)≤32:=by omega
 simp only[KK,AB,AA,AF,AE,PR];simp[hk,k1,hlf,JT hl,AD];have p1:=ACq [X.ln,X.ld,X.hn,X.hd,b01 X.lo,b01 X.ho,b01 X.li,b01 X.hi] (by
  intro z hz;simp only[ATt,AT2,or_false]at hz;rcases hz with rfl|rfl|rfl|rfl|rfl|rfl|rfl|rfl
  ·exact hX.1
  ·exact hX.2.1
  ·exact hX.2.2.1
  ·exact hX.2.2.2
  all_goals (unfold b01;split<;>(unfold i64;omega))) (BE h r lw (Ct X++rest) lf a (rB op m ins [])) r rest (by simp;omega) (JS hr hne _ _ _ _)
 simp only[Wv];simp;refine⟨_,_,p1,?_⟩;rw[HQ hr hne];simp only[Wu];simp;have hroom:Ah (ins.length+1) 40=true:=by simp[Ah];omega
 have w1:IntKind.i64.wrap ((ins.length:Int)+1)=ins.length+1:=AJ;simp only[Aa,Sz];simp[GP,rB,AO,hroom,AHo,HR];simp only[Ww];simp[w1];simpa[rB,Ivl.V]using hQ
theorem ADS {h:List Row} {r lw:Nat} (hr:r <h.length) (hl:lw <h.length) (hne:r≠lw) (rest:List Int) (lf:Int) (hlf:0≤lf) (a:Row) (op m:Int):∀(todo ins:List Ivl),(∀x∈todo,x.ok)→(ins++todo).length≤32→(todo.flatMap Ct++rest).length≤2^43→
  awp Tryz.prog GLx (.loop KK) (λe s=>e= .exit 0∧s=⟨[(0,.ref r 0),(1,.ref lw 0),(4,.ref h.length 0),(5,.ref (h.length+1) 0),(6,.v (.int .i64 (ins++todo).length)),(7,.v (.int .i64 (ins++todo).length)),(35,.v (.bool false))],BE h r lw rest lf a (rB op m (ins++todo) [])⟩)
   ⟨[(0,.ref r 0),(1,.ref lw 0),(4,.ref h.length 0),(5,.ref (h.length+1) 0),(6,.v (.int .i64 (ins++todo).length)),(7,.v (.int .i64 ins.length))],BE h r lw (todo.flatMap Ct++rest) lf a (rB op m ins [])⟩:=by
 intro todo;induction todo with
 |nil=>
  intro ins _ hn hb;refine Af ?_;simp only[KK,AB,AA,AF,AE,PR];simp[AM]
 |cons x todo ih=>
  intro ins hx hn hb;have h2:=ih (ins++[x]) (λy hy=>hx y (by simp[hy])) (by simpa using hn) (by simp at hb ⊢;omega);simp only[AT1,AWX]at h2;refine Aw (s1:=⟨[(0,.ref r 0),(1,.ref lw 0),(4,.ref h.length 0),(5,.ref (h.length+1) 0),(6,.v (.int .i64 (ins++x::todo).length)),(7,.v (.int .i64 (ins++[x]).length))],BE h r lw (todo.flatMap Ct++rest) lf a (rB op m (ins++[x]) [])⟩) ?_ h2;have:=AKM (Q:=λe s'=>match e with| .normal=>s'=⟨[(0,.ref r 0),(1,.ref lw 0),(4,.ref h.length 0),(5,.ref (h.length+1) 0),(6,.v (.int .i64 (ins++x::todo).length)),(7,.v (.int .i64 (ins++[x]).length))],BE h r lw (todo.flatMap Ct++rest) lf a (rB op m (ins++[x]) [])⟩|e=>e= .exit 0∧s'=⟨[(0,.ref r 0),(1,.ref lw 0),(4,.ref h.length 0),(5,.ref (h.length+1) 0),(6,.v (.int .i64 (ins++x::todo).length)),(7,.v (.int .i64 (ins++x::todo).length)),(35,.v (.bool false))],BE h r lw rest lf a (rB op m (ins++x::todo) [])⟩)
   hr hl hne x (hx x (by simp)) (todo.flatMap Ct++rest) (by simp at hb ⊢;omega) lf hlf a op m ins (ins++x::todo).length hn (by simp) (by simp)
  simp at this ⊢;refine AX _ (λe s hh=>?_) this;cases e<;>exact hh
theorem N2 {n m:Nat} (h:n≤m):∀ds:List D,D.lts n ds=true→D.lts m ds=true
 |[],_=>rfl
 |d::ds,hd=>by
  simp only[D.lts,ATn]at hd ⊢;exact⟨Dn h d hd.1,N2 h ds hd.2⟩
theorem Ha {n m:Nat} (h:n≤m):∀row:Row,Row.low n row=true→Row.low m row=true:=by
 intro row hr;cases row with
 |cells ds=>exact N2 h ds hr
 |map=>rfl
 |dead=>rfl
 |obj=>simp[Row.low]at hr
theorem VI {h:List Row} {r lw:Nat} {x:List Int} {lf:Int} {a b:Row} (hl:Low h) (ha:Row.low 0 a=true) (hb:Row.low 0 b=true):Low (BE h r lw x lf a b):=by
 intro row hrow;rw[IR];unfold BE at hrow;rcases AT7.1 hrow with hm|hm
 ·rcases AUg hm with hm|rfl
  ·rcases AUg hm with hm|rfl
   ·exact Ha (by omega) row (hl row hm)
   ·rfl
  ·rfl
 ·simp only[ATt,AT2,or_false]at hm;rcases hm with rfl|rfl
  ·exact Ha (by omega) _ ha
  ·exact Ha (by omega) _ hb
def tE (f:F):Prop:=∀(h:List Row) (r lw:Nat) (left:Int) (rest:List Int),r <h.length→lw <h.length→r≠lw→Low h→f.size≤left→left≤96→(B9 f++rest).length≤2^43→
 h[r]?=some (rdr (B9 f++rest))→h[lw]?=some (.cells [.v (.int .i64 left)])→FX 320 [.ref r 0,.ref lw 0] h [.v f.V] ((h.set r (rdr rest)).set lw (.cells [.v (.int .i64 (left-f.size))]))
theorem AKL {Q:AExit→St→Prop} {h:List Row} {r lw:Nat} (hr:r <h.length) (hl:lw <h.length) (hne:r≠lw) (hlow:Low h) (X:F) (hX:tE X) (rest:List Int) (hb:(B9 X++rest).length≤2^43) (lf:Int) (hlf:X.size≤lf) (h96:lf≤96) (a:Row) (ha:Row.low 0 a=true)
  (op m:Int) (ins:List Ivl) (kids:List F) (n:Nat) (hn:n≤96) (hk:kids.length <n)
  (hQ:Q .normal ⟨[(0,.ref r 0),(1,.ref lw 0),(4,.ref h.length 0),(5,.ref (h.length+1) 0),(9,.v (.int .i64 n)),(10,.v (.int .i64 (kids.length+1)))],BE h r lw rest (lf-X.size) a (rB op m ins (kids++[X]))⟩):
  awp Tryz.prog GLx KJ Q ⟨[(0,.ref r 0),(1,.ref lw 0),(4,.ref h.length 0),(5,.ref (h.length+1) 0),(9,.v (.int .i64 n)),(10,.v (.int .i64 kids.length))],BE h r lw (B9 X++rest) lf a (rB op m ins kids)⟩:=by
 have hpos:=X.size_pos;have h0:0≤lf:=by omega
 have w1:IntKind.i64.wrap ((kids.length:Int)+1)=kids.length+1:=AJ;have hroom:Ah (kids.length+1) 64=true:=by simp[Ah];omega
 have key:∀b,Row.low 0 b=true→FX 320 [.ref r 0,.ref lw 0] (BE h r lw (B9 X++rest) lf a b) [.v X.V] (BE h r lw rest (lf-X.size) a b):=by
  intro b hb';have:=hX (BE h r lw (B9 X++rest) lf a b) r lw lf rest (by rw[IR];omega) (by rw[IR];omega) hne (VI hlow ha hb') hlf h96 hb (JS hr hne _ _ _ _) (JT hl _ _ _ _);rw[HQ hr hne,WD hl]at this;exact this
 simp only[KJ,AB,AA,AF,AE,MR];simp[hk,h0,JT hl,AD];rw[Bq];refine Bm _ (λs hs=>⟨s,.inl rfl,hs⟩) ?_;simp only[Sv];simp[GP,rB,HR];obtain⟨cs,hcs,hcl⟩:∃cs,X.V= .agg cs∧cs.length=4:=by
  cases X;exact⟨_,F.V_eq _ _ _ _,rfl⟩
 have fin:Q .normal ⟨[(0,.ref r 0),(1,.ref lw 0),(4,.ref h.length 0),(5,.ref (h.length+1) 0),(9,.v (.int .i64 n)),(10,.v (.int .i64 (kids.length+1)))],BE h r lw rest (lf-X.size) a (.cells [.v (.int .i64 op),.v (.int .i64 m),.own 368 8 (ins.map Ivl.V),.own 84 4 (kids.map F.V++[.agg cs])])⟩:=by
  have:=hQ;simpa[rB,hcs]using this
 constructor
 ·refine⟨_,_,key _ rfl,?_⟩;simp[hcs,hcl,hroom,GP,HR,AO];simp only[MQ];simp[w1];exact fin
 ·refine⟨_,_,key _ rfl,?_⟩;simp[hcs,hcl,hroom,GP,HR,AO];simp only[MQ];simp[w1];exact fin
theorem ADR {h:List Row} {r lw:Nat} (hr:r <h.length) (hl:lw <h.length) (hne:r≠lw) (hlow:Low h) (rest:List Int) (a:Row) (ha:Row.low 0 a=true) (op m:Int) (ins:List Ivl):∀(todo kids:List F) (lf:Int),(∀x∈todo,tE x)→(kids++todo).length≤96→
  (todo.map F.size).sum≤lf→lf≤96→(todo.flatMap B9++rest).length≤2^43→
  awp Tryz.prog GLx (.loop KJ) (λe s=>e= .exit 2∧s=⟨[(0,.ref r 0),(1,.ref lw 0),(4,.ref h.length 0),(5,.ref (h.length+1) 0),(9,.v (.int .i64 (kids++todo).length)),(10,.v (.int .i64 (kids++todo).length)),(110,.v (.bool false))],BE h r lw rest (lf-(todo.map F.size).sum) a (rB op m ins (kids++todo))⟩)
   ⟨[(0,.ref r 0),(1,.ref lw 0),(4,.ref h.length 0),(5,.ref (h.length+1) 0),(9,.v (.int .i64 (kids++todo).length)),(10,.v (.int .i64 kids.length))],BE h r lw (todo.flatMap B9++rest) lf a (rB op m ins kids)⟩:=by
 intro todo;induction todo with
 |nil=>
  intro kids lf _ hn hs h96 hb;refine Af ?_;simp only[KJ,AB,AA,AF,AE,MR];simp[AM]
 |cons x todo ih=>
  intro kids lf hx hn hs h96 hb;simp only[ATz,AUz]at hs;have h2:=ih (kids++[x]) (lf-x.size) (λy hy=>hx y (by simp[hy])) (by simpa using hn) (by omega) (by omega) (by simp at hb ⊢;omega);simp only[AT1,AWX]at h2;have e1:lf-x.size-((todo.map F.size).sum:Nat)=lf-(((x::todo).map F.size).sum:Nat):=by simp;omega
  rw[e1]at h2;refine Aw (s1:=⟨[(0,.ref r 0),(1,.ref lw 0),(4,.ref h.length 0),(5,.ref (h.length+1) 0),(9,.v (.int .i64 (kids++x::todo).length)),(10,.v (.int .i64 (kids++[x]).length))],BE h r lw (todo.flatMap B9++rest) (lf-x.size) a (rB op m ins (kids++[x]))⟩) ?_ h2;have:=AKL (Q:=λe s'=>match e with| .normal=>s'=⟨[(0,.ref r 0),(1,.ref lw 0),(4,.ref h.length 0),(5,.ref (h.length+1) 0),(9,.v (.int .i64 (kids++x::todo).length)),(10,.v (.int .i64 (kids++[x]).length))],BE h r lw (todo.flatMap B9++rest) (lf-x.size) a (rB op m ins (kids++[x]))⟩|e=>False)
   hr hl hne hlow x (hx x (by simp)) (todo.flatMap B9++rest) (by simp at hb ⊢;omega) lf (by omega) h96 a ha op m ins kids (kids++x::todo).length hn (by simp) (by simp)
  simp at this ⊢;refine AX _ (λe s hh=>?_) this;cases e with
  |normal=>exact hh
  |ret=>exact hh.elim
  |exit=>exact hh.elim
def F.rd (f:F):Prop:=∀g∈f.nodes,g.ok1∧g.ins.length≤32
theorem F.rd_kid {op n:Int} {ins:List Ivl} {kids:List F} (h:(F.mk op n ins kids).rd) {k:F} (hk:k∈kids):k.rd:=λg hg=>h g (by
 rw[F.nodes_eq];exact AVI _ (AUb.2 ⟨k,hk,hg⟩))
theorem uD (op n:Int) (ins:List Ivl) (kids:List F):B9 (.mk op n ins kids)=Cg (.mk op n ins kids)++kids.flatMap B9:=by
 unfold B9;rw[F.nodes_eq,AT8,List.flatMap_assoc]
theorem WB {h:List Row} {r:Nat} {x:Row} (hr:h[r]?=some x):h.set r x=h:=by
 apply AUa;intro i;rw[AUY];split
 ·rename_i hi;subst hi;have hl:=(ATp.1 hr).1;rw[if_pos hl,hr]
 ·rfl
def Fq (h:List Row) (r lw:Nat) (x:List Int) (lf:Int) (a:Row):List Row:=(h.set r (rdr x)).set lw (.cells [.v (.int .i64 lf)])++[a]
theorem ST {h:List Row} {r lw:Nat} (hr:r <h.length) (hne:r≠lw) (x:List Int) (lf:Int) (a:Row):(Fq h r lw x lf a)[r]?=some (rdr x):=by
 unfold Fq;rw[AUB (by simpa using hr),AT5 (Ne.symm hne),AUJ (by simpa using hr)]
theorem Nk {h:List Row} {r lw:Nat} (hr:r <h.length) (hne:r≠lw) (x y:List Int) (lf:Int) (a:Row):(Fq h r lw x lf a).set r (rdr y)=Fq h r lw y lf a:=by
 unfold Fq;rw[AVa _ _ (by simpa using hr),List.set_comm _ _ (Ne.symm hne),AU6]
theorem U8 {h:List Row} {r lw:Nat} (x:List Int) (lf:Int) (a:Row):(Fq h r lw x lf a).length=h.length+1:=by simp[Fq]
theorem U9 {h:List Row} {r lw:Nat} (x:List Int) (lf:Int) (a b:Row):Fq h r lw x lf a++[b]=BE h r lw x lf a b:=by simp[Fq,BE]
theorem WC {h:List Row} {r lw:Nat} (hne:r≠lw) (hl:lw <h.length) {x:List Int} (hr:h[r]?=some (rdr x)) (lf:Int) (a:Row):(h++[a]).set lw (.cells [.v (.int .i64 lf)])=Fq h r lw x lf a:=by
 unfold Fq;rw[AVa _ _ hl,WB hr]
theorem WK:∀f:F,f.rd→tE f:=by
 refine F.ind λop n ins kids ih hrd=>?_;intro h r lw left rest hr hl hne hlow hsz h96 hb hhr hhl;obtain⟨⟨o1,o2,o3,o4⟩,hi32⟩:=hrd (.mk op n ins kids) (by rw[F.nodes_eq];simp);simp only[F.op,F.n,F.ins]at o1 o2 o3 hi32;rw[uD]at hb hhr;have hse:=F.size_eq op n ins kids;have hkl:=F.kids_len kids;have hA:Row.low 0 (.cells [.v (.int .i64 0),.v (.int .i64 0),.own 368 8 [],.own 84 4 []])=true:=rfl;have g1:=AS [.cells [.v (.int .i64 0),.v (.int .i64 0),.own 368 8 [],.own 84 4 []]] hhl;have w1:IntKind.i64.wrap (left-1)=left-1:=AJ;have hm:=WC hne hl hhr (left-1) (.cells [.v (.int .i64 0),.v (.int .i64 0),.own 368 8 [],.own 84 4 []]);generalize hAA:Row.cells [.v (.int .i64 0),.v (.int .i64 0),.own 368 8 [],.own 84 4 []]=A at hA g1 hm;have hE:Cg (.mk op n ins kids)++kids.flatMap B9++rest=Ag op++(Ag n++(Ag ins.length++(ins.flatMap Ct++(Ag kids.length++(kids.flatMap B9++rest))))):=by simp[Cg,F.op,F.n,F.ins,F.kids]
 rw[hE]at hm hb;refine As AQ2 rfl (by simp) (by
  intro row hrow;simp only[AUr];rcases AUg hrow with hm|rfl
  ·rcases AUg hm with hm|rfl
   ·exact hlow row hm
   ·rfl
  ·rfl) (by simp[D.lt]) ?_
 simp only[AKN,AB,AA,AF,AE,W1,W0,AQ];simp[hAA,g1,w1,AO,hm];simp only[Wz];simp;refine⟨_,_,(p45 op o1 _ r _ (ST hr hne _ _ _)),?_⟩;rw[Nk hr hne];simp;refine⟨_,_,(p45 n o2 _ r _ (ST hr hne _ _ _)),?_⟩;rw[Nk hr hne];have hB:Row.cells [.v (.int .i64 op),.v (.int .i64 n),.own 368 8 [],.own 84 4 []]=rB op n [] []:=rfl;simp[AO,hAA,U8,U9];simp only[Wy];simp;refine⟨_,_,(p45 ins.length (by unfold i64;omega) _ r _ (JS hr hne _ _ _ _)),?_⟩;rw[HQ hr hne];simp only[Wx];simp;have hI:=ADS hr hl hne (Ag kids.length++(kids.flatMap B9++rest)) (left-1) (by omega) A op n ins [] o3 (by simpa using hi32) (by simp at hb ⊢;omega);simp at hI;refine HC hI ?_;simp only[Sy];simp;refine⟨_,_,(p45 kids.length (by unfold i64;omega) _ r _ (JS hr hne _ _ _ _)),?_⟩;rw[HQ hr hne];have k1:¬(left-1 <(kids.length:Int)):=by omega
 have k2:¬((kids.length:Int) <0):=by omega
 simp only[Sx];simp[GP,JT hl,rB,k1,k2,AD];simp only[Sw];simp;have hK:=ADR hr hl hne hlow rest A hA op n ins kids [] (left-1) (λx hx=>ih x hx (F.rd_kid hrd hx)) (by simp;omega) (by omega) (by omega) (by simp at hb ⊢;omega);simp[rB]at hK;refine HC hK ?_;subst hAA;simp only[Su];simp[tP,GP,WE,AO,wY,F.V_eq,AG,D.one?,D.vs?,D.v?];rw[show left-1-((kids.map F.size).sum:Nat)=left-((F.mk op n ins kids).size:Nat) by omega];exact⟨_,rfl⟩
mutual
def F.hold (I:Int→Int→Bool):F→Th→Bool
 | .mk op n ins kids,t=>
  if op=1 then t.cs.any λc=>I c n
  else if op=2 then (U2 t n).isSome&&ADC ins (Jk t n).1 (Jk t n).2
  else if op=3 then t.ps.any λp=>F.hold1 I kids p
  else if op=4 then F.holdA I kids t
  else if op=5 then F.holdO I kids t
  else if op=6 then !F.hold1 I kids t
  else true
def F.hold1 (I:Int→Int→Bool):List F→Th→Bool|[],_=>false|k::_,t=>k.hold I t
def F.holdA (I:Int→Int→Bool):List F→Th→Bool|[],_=>true|k::ks,t=>k.hold I t&&F.holdA I ks t
def F.holdO (I:Int→Int→Bool):List F→Th→Bool|[],_=>false|k::ks,t=>k.hold I t||F.holdO I ks t
end
theorem LQ (I:Int→Int→Bool) (t:Th):∀l,F.holdA I l t=l.all λk=>k.hold I t
 |[]=>rfl
 |k::ks=>by simp[F.holdA,LQ I t ks]
theorem LP (I:Int→Int→Bool) (t:Th):∀l,F.holdO I l t=l.any λk=>k.hold I t
 |[]=>rfl
 |k::ks=>by simp[F.holdO,LP I t ks]
theorem Low.apps {h X:List Row} (hl:Low h) (hx:∀row∈X,Row.low (h.length+X.length) row=true):Low (h++X):=by
 intro row hrow;rw[ATr];rcases AT7.1 hrow with h1|h1
 ·exact Ha (Nat.le_add_right _ _) row (hl row h1)
 ·exact hx row h1
theorem Sf {n:Nat}:∀(xs:List V),D.lts n (xs.map .v)=true:=λxs=>D1 λd hd=>by
 obtain⟨x,_,rfl⟩:=ATw.1 hd;rfl
theorem LN (n:Nat) (f:F):Row.low n (.cells f.cells)=true:=by
 obtain⟨op,k,ins,kids⟩:=f;simp[F.cells,Row.low,D.lts,D.lt]
theorem Hb (n:Nat) (t:Th):Row.low n (.cells t.cells)=true:=by
 obtain⟨cs,vs,ps⟩:=t;simp[Th.cells,Row.low,D.lts,D.lt,AL]
section
variable {ps:List V} {bs:List Bool} {H:List Row} {a b x:Nat}
theorem AQg (g:F) (t:Th) (ha:H[a]?=some (.cells [.ref x 0])) (hb:H[b]?=some (.cells t.cells)) (hl:Low H) (R:Bool)
  (hp:FX 71 [.ref x 0,.v g.V,.v t.V] (H++[.cells g.cells]) [.v (.bool R)] (H++[.cells g.cells])):
  FX 155 [.v g.V,.ref a 0,.ref b 0] H [.v (.bool R)] H:=by
 refine As AS3 rfl (ATs _) hl (by simp[D.lt]) ?_;have ha':=AS [.cells g.cells] ha;have hb':=AS [.cells g.cells] hb;obtain⟨op,n,ins,kids⟩:=g;obtain⟨cs,vs,pa⟩:=t;simp only[F.cells,F.op,F.n,F.ins,F.kids,F.V_eq,Th.cells,Th.cs,Th.vs,Th.ps,Th.V_eq]at*;simp only[Vh,AB,AA,oj,oi,AQ];simp[AL]at hp ha' hb' ⊢;simp[ha',hb'];refine⟨_,_,hp,?_⟩;simp[AG,ABX]
theorem AQa (g:F) (c:Nat) (hc:H[c]?=some (.cells [.func 155 [.ref a 0,.ref b 0]])) (hl:Low H) (R:Bool)
  (hp:FX 155 [.v g.V,.ref a 0,.ref b 0] (H++[.cells g.cells]) [.v (.bool R)] (H++[.cells g.cells])):
  FX 161 [.v g.V,.ref c 0] H [.v (.bool (!R))] H:=by
 refine As ASx rfl (ATs _) hl (by simp[D.lt]) ?_;have hc':=AS [.cells g.cells] hc;obtain⟨op,n,ins,kids⟩:=g;simp only[F.cells,F.op,F.n,F.ins,F.kids,F.V_eq]at*;simp only[AOH,AB,AA,oP,oO,AQ];simp at hp hc' ⊢;simp[hc',D.vs?,D.v?];refine⟨_,_,hp,?_⟩;simp[AG,ABU]
theorem AQf (f:F) (hps:ps.length≤64) (hbs:bs.length=4096) (hx:H[x]?=some (CN ps bs)) (ha:H[a]?=some (.cells [.ref x 0])) (hb:H[b]?=some (.cells f.cells)) (c:Int):
  FX 156 [.v (.int .i64 c),.ref a 0,.ref b 0] H [.v (.bool (isT ps.length bs c f.n))] H:=by
 refine AN AS2 rfl ?_;have hp:=AQe ps bs hps hbs H x hx c f.n;obtain⟨op,n,ins,kids⟩:=f;simp only[F.cells,F.op,F.n,F.ins,F.kids]at*;simp only[AOY,AB,AA,oh,og,AQ];simp[ha,hb];refine⟨_,_,hp,?_⟩;simp[AG,ABW]
theorem AQb (op n:Int) (ins:List Ivl) (k:F) (ks:List F) (t:Th) (ha:H[a]?=some (.cells [.ref x 0])) (hb:H[b]?=some (.cells (F.mk op n ins (k::ks)).cells)) (hl:Low H) (R:Bool)
  (hp:FX 71 [.ref x 0,.v k.V,.v t.V] (H++[.cells t.cells]) [.v (.bool R)] (H++[.cells t.cells])):
  FX 160 [.v t.V,.ref a 0,.ref b 0] H [.v (.bool R)] H:=by
 refine As ASy rfl (ATs _) hl (by simp[D.lt]) ?_;have ha':=AS [.cells t.cells] ha;have hb':=AS [.cells t.cells] hb;obtain⟨op',n',ins',kids'⟩:=k;obtain⟨cs,vs,pa⟩:=t;simp only[F.cells,F.op,F.n,F.ins,F.kids,F.V_eq,Th.cells,Th.cs,Th.vs,Th.ps,Th.V_eq,ATz]at*;simp only[AOI,AB,AA,Aa,oR,oQ,AQ];simp[AL]at hp ha' hb' ⊢;simp[ha',hb'];refine⟨_,_,hp,?_⟩;simp[AG,ABV]
end
end Go.Va
namespace Go.Va
open Go.Proofs
theorem AIK (xs:List Int) (hb:xs.length≤2^45):PX 283 [AL .u8 xs,AL .u8 xs] [.bool true]:=by
 refine AK AR8 rfl ?_;simp only[AM4,AB,AA,AF,AE,eY,eX,AY];simp[AL,AD];simp only[eW];simp;refine Ac xs.length (λk=>⟨[(0,.v (AL .u8 xs)),(1,.v (AL .u8 xs)),(12,.v (.int .i64 xs.length)),(13,.v (.int .i64 k))],[]⟩) (by simp[AL]) ?_;intro k hk;simp only[eZ,AB,AA,AF,AE,eV];simp[AL];by_cases h1:k <xs.length
 ·have hx:xs[k]?=some xs[k]:=ATo h1;have hw:IntKind.i64.wrap ((k:Int)+1)=k+1:=AJ;rw[if_pos (by omega),AD];simp only[AA,eU];simp only[Aa,eT];simp[hx,AD];simp only[eS];simp[hw,h1]
 ·have:k=xs.length:=by omega
  subst this;rw[if_neg (by omega),AM];simp[AA,AG,eR,AAa]
theorem APe (f:F) (hok:f.ok) (hrd:f.rd) (h96:f.size≤96) (hE:BH f=0) (hb:(B9 f).length≤2^43):PX 282 [AL .u8 (B9 f)] [f.V,.int .i64 0]:=by
 refine AK AR9 rfl ?_;have q1:=(AIT f hok hb).fsp;rw[if_pos hE,hE]at q1;have q2:=(AIK (B9 f) (by omega)).fsp;simp at q1 q2;simp only[AM5,AB,AA,AF,AE,ek,ei,AY];simp;refine⟨_,_,(p44 (B9 f) (by omega) _),?_⟩;simp only[eh];simp[AO];simp only[eg];simp;have hR:=WK f hrd [.cells [.v (.int .i64 0),.v (.int .i64 0),.own 368 8 [],.own 84 4 []],rdr (B9 f),.cells [.v (.int .i64 96)]] 1 2 96 [] (by simp) (by simp) (by decide) (by
  intro row hrow;simp only[ATt,AT2,or_false]at hrow;rcases hrow with rfl|rfl|rfl<;>rfl) (by omega) (by omega) (by simpa using hb) (by simp) (by simp)
 simp at hR;obtain⟨c0,c1,c2,c3,hV⟩:∃a b c d,f.V= .agg [a,b,c,d]:=by
  cases f;exact⟨_,_,_,_,F.V_eq _ _ _ _⟩
 rw[hV]at hR q1;refine⟨_,_,hR,?_⟩;have k1:¬(96-(f.size:Int) <0):=by omega
 simp[AO,D.toRow];simp only[ef];have hend:=ACp [Row.cells [.v (.int .i64 0),.v (.int .i64 0),.own 368 8 [],.own 84 4 []],rdr [],.cells [.v (.int .i64 (96-(f.size:Int)))],.cells [.v c0,.v c1,.v c2,.v c3]] 1 rfl;simp[k1];refine⟨_,_,hend,?_⟩;simp[AD];simp only[ed];simp[D.one?,D.vs?,D.v?];refine⟨_,_,q1 _,?_⟩;simp only[Aa,eb];simp;refine⟨_,_,q2 _,?_⟩;simp[AD];simp only[ea];simp[AO,D.toRow,D.one?,D.vs?,D.v?,hV,AG,AAb,B8]
def isB (l:List Int):Prop:=∀x∈l,0≤x∧x <256
theorem isB.app {a b:List Int} (ha:isB a) (hb:isB b):isB (a++b):=λx hx=>(AT7.1 hx).elim (ha x) (hb x)
theorem isB.flat {α:Type} {f:α→List Int} {l:List α} (h:∀x∈l,isB (f x)):isB (l.flatMap f):=λy hy=>by
 obtain⟨x,hx,hy⟩:=AUb.1 hy;exact h x hx y hy
theorem isB.uvarF:∀(k:Nat) (n:Int),0≤n→n <128^(k+1)→isB (Go.Va.DH k n)
 |0,n,h0,h1=>by
  have e:(128:Int)^(0+1)=128:=by decide
  intro x hx;simp[Go.Va.DH]at hx;subst hx;omega
 |k+1,n,h0,h1=>by
  simp only[Go.Va.DH];split
  ·intro x hx;simp at hx;omega
  ·intro x hx;rcases ATt.1 hx with rfl|hx
   ·omega
   ·exact isB.uvarF k (n/128) (by omega) (AWT (by decide) (by rw[←AVZ];exact h1)) x hx
theorem isB.uvar {n:Int} (h0:0≤n) (h1:n <18446744073709551616):isB (Go.Va.Gq n):=by
 have e:(128:Int)^(9+1)=1180591620717411303424:=by decide
 exact isB.uvarF 9 n h0 (by omega)
theorem isB.encI {n:Int} (h:i64 n):isB (Go.Va.Ag n):=isB.uvar (HF h).1 (HF h).2
theorem isB.encInts {l:List Int} (h:∀n∈l,i64 n) (hl:l.length≤2^60):isB (Go.Va.BF l):=(isB.uvar (by omega) (by omega)).app (isB.flat λn hn=>isB.encI (h n hn))
theorem isB.encRaw {l:List Int} (h:isB l) (hl:l.length≤2^60):isB (Go.Va.BI l):=(isB.uvar (by omega) (by omega)).app h
theorem isB.encF {f:F} (hf:f.ok):isB (Go.Va.B9 f):=by
 refine isB.flat λg hg=>?_;obtain⟨h1,h2,h3,h4⟩:=hf.1 g hg;have hk:=F.kids_le f g hg;have hs:=hf.2;exact(isB.encI h1).app ((isB.encI h2).app ((isB.encI (by unfold i64;omega)).app ((isB.flat λx hx=>isB.encInts (Sl (h3 x hx)) (by simp)).app (isB.encI (by unfold i64;omega)))))
theorem isB.encClms {l:List Clm} (hl:∀c∈l,c.ok) (hn:l.length≤2^40) (hb:(Go.Va.BJ l).length≤2^60):isB (Go.Va.BJ l):=by
 refine(isB.encI (by unfold i64;omega)).app (isB.flat λc hc=>?_);obtain⟨o1,o2,o3⟩:=hl c hc;unfold Go.Va.BJ at hb;rw[ATr]at hb;have:=MJ (f:=BT) hc;simp only[BT,ATr,Go.Va.BI]at this;exact(isB.encInts o1 (by omega)).app (isB.encRaw (isB.encF o3) (by omega))
theorem G0 {e:Nat→Int}:∀(m k:Nat),Ee e k m=0→∀j,k≤j→j <k+m→e j=0
 |0,k,_,j,h1,h2=>by omega
 |m+1,k,h,j,h1,h2=>by
  simp only[Ee]at h;split at h
  ·rename_i h3;exact absurd h h3
  ·rename_i h3;by_cases hj:j=k
   ·subst hj;simpa using h3
   ·exact G0 m (k+1) h j (by omega) (by omega)
theorem Lb {l:List Clm} (h:CL l=0):∀c∈l,BH c.body=0:=by
 intro c hc;unfold CL at h;split at h
 ·cases h
 ·obtain⟨k,hk,hx⟩:=List.getElem_of_mem hc;have:=G0 _ _ h k (by omega) (by omega);unfold Hs at this;rw[ATo hk,hx]at this;simp only[KO]at this;split at this
  ·cases this
  ·split at this
   ·exact this
   ·cases this
theorem AIa (l:List Clm) (hl:∀c∈l,c.ok) (hn:l.length≤2^40) (hb:(BJ l).length≤2^39):PX 130 [.list (l.map Clm.V)] [AL .u8 (if CL l=0 then BJ l else []),.int .i64 (CL l)]:=by
 refine AK AKB rfl ?_;have p1:=(ACm l hl hn).fsp;have hz:CL l=0→∀c∈l,BH c.body=0:=Lb;have il:i64 (l.length:Int):=by unfold i64;omega
 generalize CL l=e at*;unfold BJ at hb ⊢;rw[ATr]at hb;simp only[AHS,AB,AA,AF,AE,rC,rA,qz,AY];simp;refine⟨_,_,p1 _,?_⟩;by_cases h:e=0
 ·subst h;have hz:=hz rfl;simp[AD,AA,qx,qw,AO];refine⟨_,_,(p98 l.length il _ 0 [] rfl (by simp)),?_⟩;simp[qv];refine Ae l.length (λk s=>s.e=[(5,.ref 0 0),(21,.v (.list (l.map Clm.V))),(22,.v (.int .i64 l.length)),(23,.v (.int .i64 k))]∧∃J,s.h=wr (Ag l.length++(l.take k).flatMap BT)::J) ⟨rfl,[],by simp⟩ ?_;rintro k ⟨se,sh⟩ hk ⟨he,J,hh⟩;simp only at he hh;subst he hh;simp only[rD,AB,AA,AF,AE,qu];simp;by_cases hlt:k <l.length
  ·obtain⟨x,hx⟩:∃x,l[k]?=some x:=⟨_,ATo hlt⟩;have hxm:=ATq hx;have hxe:l[k]=x:=(ATp.1 hx).2;obtain⟨o1,o2,o3⟩:=hl x hxm;have hf:=hz x hxm;have hw:IntKind.i64.wrap ((k:Int)+1)=k+1:=AJ;have hle:=Gl l BT (k+1);rw[DC hlt,hxe,ATr]at hle;have e:(l.take (k+1)).flatMap BT=(l.take k).flatMap BT++BT x:=by rw[DC hlt,hxe]
   have ec:(BT x).length=(BF x.refs).length+(BI (B9 x.body)).length:=by simp[BT]
   have er:(BI (B9 x.body)).length=(Gq (B9 x.body).length).length+(B9 x.body).length:=by simp[BI]
   have p2:=(AIT x.body o3 (by omega)).fsp;have hp100:=λh hr=>ACs x.refs o1 o2 h 0 (Ag l.length++(l.take k).flatMap BT) hr (by rw[ATr];omega);have hbytes:isB (B9 x.body):=isB.encF o3;have hp99:=λh hr=>p99 (B9 x.body) hbytes (by omega) h 0 (Ag l.length++((l.take k).flatMap BT++BF x.refs)) hr (by simp only[ATr];omega);rw[F.V_flds,hf]at p2;have e2:BT x=BF x.refs++BI (B9 x.body):=rfl;generalize BI (B9 x.body)=B at*;generalize BF x.refs=A at*;generalize B9 x.body=C at*;rw[if_pos (by omega),AD];simp only[AA,qt,qr,Uo];simp[AL]at p2 hp99 hp100;simp[hx,Clm.V,AL,AO];refine⟨_,_,p2 _,?_⟩;simp[AD,AA,Un];refine⟨_,_,(hp100 _ rfl),?_⟩;simp[Um];refine⟨_,_,(hp99 _ rfl),?_⟩;simp[Ul,hw,hlt,e,e2]
  ·have:k=l.length:=by omega
   subst this;rw[if_neg (by omega),AM];simp[AA,Uk];refine⟨_,_,(ACr _ 0 (Ag l.length++l.flatMap BT) rfl (by rw[ATr];omega)),?_⟩;simp[AG,Up,AL]
 ·simp[h,AB,AA,AG,qy,Up,AL]
theorem LC {l:List Ivl} (h:FY l=0):l.length≤32:=by
 unfold FY at h;split at h
 ·cases h
 ·split at h
  ·cases h
  ·omega
theorem PJ {f:F} (h:BH f=0):f.size≤96:=by
 unfold BH at h;split at h
 ·cases h
 ·omega
theorem Wi {f:F} (hok:f.ok) (h:BH f=0):f.rd:=by
 intro g hg;refine⟨hok.1 g hg,?_⟩;unfold BH at h;split at h
 ·cases h
 ·split at h
  ·rename_i ha;have:=AT4.1 ha g hg;unfold Ax at this;split at this
   ·cases this
   ·rename_i hn;by_cases h2:g.op=2
    ·simp[h2]at this;exact LC this.2.2.2
    ·have:¬0 <g.ins.length:=λhh=>hn (.inl ⟨h2,hh⟩);omega
  ·cases h
theorem MO {l:List Clm} {c:Clm} (hc:c∈l):(B9 c.body).length≤(BJ l).length:=by
 unfold BJ;have:(BT c).length≤(l.flatMap BT).length:=by
  induction l with
  |nil=>cases hc
  |cons x l ih=>
   simp only[AT8,ATr];rcases ATt.1 hc with rfl|hc
   ·omega
   ·have:=ih hc;omega
 simp only[BT,BI,ATr]at this ⊢;omega
theorem AQQ (l:List Clm) (hl:∀c∈l,c.ok) (hz:CL l=0) (hn:l.length≤32) (hb:(BJ l).length≤2^39):PX 205 [AL .u8 (BJ l)] [.list (l.map Clm.V),.int .i64 0]:=by
 refine AK ASn rfl ?_;have q1:=(AIa l hl (by omega) hb).fsp;rw[if_pos hz,hz]at q1;have q2:=(AIK (BJ l) (by omega)).fsp;simp at q1 q2;have hall:=Lb hz;have hlen:∀c∈l,(B9 c.body).length≤2^39:=λc hc=>AUV (MO hc) hb;simp only[AN1,AB,AA,AF,AE,mn,mm,AY];simp;refine⟨_,_,(p44 (BJ l) (by omega) _),?_⟩;simp only[ml];simp;refine⟨_,_,(p45 l.length (by unfold i64;omega) _ 0 (l.flatMap BT) rfl),?_⟩;simp only[mj];simp;simp only[mi];simp;refine Ae l.length (λk s=>s.e=[(0,.v (AL .u8 (BJ l))),(4,.ref 0 0),(5,.v (.int .i64 l.length)),(6,.own 130 5 ((l.take k).map Clm.V)),(7,.v (.int .i64 k))]∧∃J,s.h=rdr ((l.drop k).flatMap BT)::J) ⟨rfl,[],by simp⟩ ?_;rintro k ⟨se,sh⟩ hk ⟨he,J,hJ⟩;simp only at he hJ;subst he;subst hJ;have hk32:(l.length:Int)≤32:=by omega
 simp only[mq,AB,AA,AF,AE,mh];by_cases h1:k <l.length
 ·have hd:l.drop k=l[k]::l.drop (k+1):=AU9 h1;have hc:=hl _ (AUc h1);have hcl:=hlen _ (AUc h1);have hf0:=hall _ (AUc h1);obtain⟨c,hcc⟩:∃c,c=l[k]:=⟨_,rfl⟩;rw[←hcc]at hd hc hcl hf0;simp[h1,hk32,AD];simp only[AA,mf];simp;obtain⟨R,hR⟩:∃R,R=(l.drop (k+1)).flatMap BT:=⟨_,rfl⟩;have hX:(BF c.refs++(BI (B9 c.body)++R)).length≤2^39:=by
   have e1:l.flatMap BT=(l.take k).flatMap BT++(BF c.refs++(BI (B9 c.body)++R)):=by
    conv=>lhs;rw[←AUe k l,AVd,hd,AT8,←hR]
    simp[BT]
   unfold BJ at hb;rw[e1]at hb;simp only[ATr]at hb ⊢;omega
  have hg:=D3 c.refs;simp only[BF,BI,ATr]at hX;have hXd:(l.drop k).flatMap BT=BF c.refs++(BI (B9 c.body)++R):=by rw[hd,AT8,←hR];simp[BT]
  rw[hXd,←hR];refine⟨_,_,(ACq c.refs hc.1 _ 0 (BI (B9 c.body)++R) (by simp only[BI,ATr];omega) rfl),?_⟩;simp[AO,D.toRow];simp only[me];simp;refine⟨_,_,(AIg (B9 c.body) _ 0 R (by omega) rfl),?_⟩;have hD:=(APe c.body hc.2.2 (Wi hc.2.2 hf0) (PJ hf0) hf0 (by omega)).fsp;rw[F.V_flds]at hD;simp[AL]at hD;simp;refine⟨_,_,hD _,?_⟩;simp[AO,D.toRow];simp only[md];simp[AD];simp only[UJ];simp[AO,D.toRow];have hroom:Ah (k+1) 88=true:=by simp[Ah];omega
  have hmin:min k l.length=k:=by omega
  have htk:(l.map Clm.V).take (k+1)=(l.map Clm.V).take k++[Clm.V c]:=by
   rw[←AUM,←AUM,AUx h1,AUN,hcc];rfl
  have hw:IntKind.i64.wrap ((k:Int)+1)=k+1:=AJ;simp only[UI];simp[D.one?,D.vs?,D.v?,hroom,hmin,htk];simp only[mg];simp[hw,h1,Clm.V,AL]
 ·have:k=l.length:=by omega
  subst this;simp[AM];simp only[AA,UH,AE];simp;have hend:=ACp (rdr []::J) 0 rfl;refine⟨_,_,hend,?_⟩;simp[AD];simp only[UG];simp;refine⟨_,_,q1 _,?_⟩;simp;simp only[UF];simp;refine⟨_,_,q2 _,?_⟩;simp[AD];simp only[UE];simp[AG,ABH,B8]
def hZ (h:List Row) (x:Nat) (f:F) (t:Th):List Row:=[.cells [.ref x 0],.cells f.cells,.cells t.cells,.cells [.func 155 [.ref h.length 0,.ref (h.length+2) 0]]]
theorem PE {h:List Row} {x:Nat} (f:F) (t:Th) (hl:Low h) (hx:x <h.length):Low (h++hZ h x f t):=by
 refine hl.apps λrow hrow=>?_;simp only[hZ,ATt,AT2,or_false]at hrow;rcases hrow with rfl|rfl|rfl|rfl
 ·simp[Row.low,D.lts,D.lt,hZ];omega
 ·exact LN _ f
 ·exact Hb _ t
 ·simp[Row.low,D.lts,D.lt,hZ]
theorem ADD {h:List Row} {x:Nat} {r:Row} (f:F) (t:Th) (hx:h[x]?=some r):(h++hZ h x f t)[x]?=some r:=AS _ hx
theorem ADE (h:List Row) (x:Nat) (f:F) (t:Th):(h++hZ h x f t)[h.length]?=some (.cells [.ref x 0]):=by simp[hZ]
theorem AKJ (h:List Row) (x:Nat) (f:F) (t:Th):(h++hZ h x f t)[h.length+1]?=some (.cells f.cells):=by simp[hZ]
theorem ATV (h:List Row) (x:Nat) (f:F) (t:Th):(h++hZ h x f t)[h.length+2]?=some (.cells t.cells):=by simp[hZ]
theorem ATU (h:List Row) (x:Nat) (f:F) (t:Th):(h++hZ h x f t)[h.length+3]?=some (.cells [.func 155 [.ref h.length 0,.ref (h.length+2) 0]]):=by simp[hZ]
def Uz (ps:List V) (bs:List Bool) (f:F):Prop:=∀t:Th,t.ok→∀(h:List Row) (x:Nat),h[x]?=some (CN ps bs)→Low h→
 FX 71 [.ref x 0,.v f.V,.v t.V] h [.v (.bool (f.hold (isT ps.length bs) t))] h
theorem ADB {ps:List V} {bs:List Bool} (f:F) (cs:List Int) (vs:List Val) (pa:List Th) (h:List Row) (x:Nat) (hx:h[x]?=some (CN ps bs)) (hps:ps.length≤64) (hbs:bs.length=4096) (hn:cs.length≤2^30):
  FX 151 [.v (AL .i64 cs),.func 156 [.ref h.length 0,.ref (h.length+1) 0]] (h++hZ h x f (.mk cs vs pa)) [.v (.bool (cs.any λc=>isT ps.length bs c f.n))] (h++hZ h x f (.mk cs vs pa)):=by
 have hidx:IdxR Tryz.prog GLx 156 [.ref h.length 0,.ref (h.length+1) 0] (cs.map (.int .i64)) (h++hZ h x f (.mk cs vs pa)) (cs.findIdx? λc=>isT ps.length bs c f.n) (h++hZ h x f (.mk cs vs pa)):=
  IdxR.map λc _=>AQf f hps hbs (ADD f _ hx) (ADE h x f _) (AKJ h x f _) c
 have:=tY _ 156 _ (FV.r 156 h.length 0 [.ref (h.length+1) 0]) (cs.map (.int .i64)) (by simp;omega) (by
  intro x hx;obtain⟨y,_,rfl⟩:=ATw.1 hx;exact⟨_,rfl⟩) hidx
 rw[Cn]at this;exact this
theorem ADA {ps:List V} {bs:List Bool} (cs:List Int) (vs:List Val) (pa:List Th) (h:List Row) (x:Nat) (hx:h[x]?=some (CN ps bs)) (hl:Low h) (op n:Int) (ins:List Ivl) (k:F) (ih:Uz ps bs k) (hn:pa.length≤2^30) (hp:∀p∈pa,p.ok):
  FX 153 [.v (.list (pa.map Th.V)),.func 160 [.ref h.length 0,.ref (h.length+1) 0]] (h++hZ h x (.mk op n ins [k]) (.mk cs vs pa)) [.v (.bool (pa.any λp=>k.hold (isT ps.length bs) p))] (h++hZ h x (.mk op n ins [k]) (.mk cs vs pa)):=by
 have hlow:=PE (.mk op n ins [k]) (.mk cs vs pa) hl (CJ hx);have hidx:IdxR Tryz.prog GLx 160 [.ref h.length 0,.ref (h.length+1) 0] (pa.map Th.V) (h++hZ h x (.mk op n ins [k]) (.mk cs vs pa)) (pa.findIdx? λp=>k.hold (isT ps.length bs) p) (h++hZ h x (.mk op n ins [k]) (.mk cs vs pa)):=
  IdxR.map λp hm=>AQb op n ins k [] p (ADE h x _ _) (AKJ h x _ _) hlow _ (ih p (hp p hm) _ x (AS _ (ADD _ _ hx)) (hlow.app (Hb _ p)))
 have:=ACl _ 160 _ (FV.r 160 h.length 0 [.ref (h.length+1) 0]) (pa.map Th.V) (by simp;omega) (by
  intro x hx;obtain⟨y,_,rfl⟩:=ATw.1 hx;exact y.V3) hidx
 rw[Cn]at this;exact this
theorem Wf {ps:List V} {bs:List Bool} (f:F) (h:List Row) (x:Nat) (hx:h[x]?=some (CN ps bs)) (hl:Low h) (k:F) (ih:Uz ps bs k) (t:Th) (ht:t.ok) (X:List Row) (hX:∀row∈X,∃g:F,row= .cells g.cells):
  FX 155 [.v k.V,.ref h.length 0,.ref (h.length+2) 0] (h++hZ h x f t++X) [.v (.bool (k.hold (isT ps.length bs) t))] (h++hZ h x f t++X):=by
 have hlow:=(PE f t hl (CJ hx)).apps (X:=X) (by
  intro row hrow;obtain⟨g,rfl⟩:=hX row hrow;exact LN _ g)
 exact AQg k t (AS _ (ADE h x f t)) (AS _ (ATV h x f t)) hlow _ (ih t ht _ x (AS _ (AS _ (ADD f t hx))) (hlow.app (LN _ k)))
theorem wF (kids:List F):∀x∈kids.map F.V,∃cs,x=V.agg cs∧cs.length=4:=by
 intro x hx;obtain⟨k,_,rfl⟩:=ATw.1 hx;obtain⟨ko,kn,ki,kk⟩:=k;exact⟨_,F.V_eq ..,rfl⟩
theorem Sq (f:F) (h:Ax f=true) (ho:f.op=3∨f.op=6):∃k,f.kids=[k]:=by
 unfold Ax at h;by_cases hc:(f.op≠2∧0 <f.ins.length)∨(f.op≠2∧f.op≠1∧f.n≠0)
 ·rw[if_pos hc]at h;cases h
 ·rw[if_neg hc,if_neg (by omega),if_neg (by omega),if_neg (by omega),if_pos ho]at h
  match f.kids,h with
  |[k],_=>exact⟨k,rfl⟩
theorem t7 (f:F) (h:Ax f=true):f.ins.length≤32:=by
 unfold Ax at h;by_cases hc:(f.op≠2∧0 <f.ins.length)∨(f.op≠2∧f.op≠1∧f.n≠0)
 ·rw[if_pos hc]at h;cases h
 ·by_cases h2:f.op=2
  ·rw[if_neg hc,if_neg (by omega),if_neg (by omega),if_pos h2]at h;exact LC (of_decide_eq_true h).2.2.2
  ·omega
theorem p71 {ps:List V} {bs:List Bool} (hps:ps.length≤64) (hbs:bs.length=4096):∀f:F,f.ok→f.nodes.all Ax=true→Uz ps bs f:=by
 refine F.ind λop n ins kids ih hok hfm=>?_;have hsz:=hok.2;rw[F.size_eq]at hsz;have hkl:=F.kids_len kids;have hfo:Ax (.mk op n ins kids)=true:=by
  rw[F.nodes_eq]at hfm;simp only[AVS,ATn]at hfm;exact hfm.1
 have hfk:∀k∈kids,k.nodes.all Ax=true:=by
  intro k hk;rw[F.nodes_eq]at hfm;simp only[AVS,ATn]at hfm;rw[AT4]at hfm ⊢;exact λg hg=>hfm.2 g (AUb.2 ⟨k,hk,hg⟩)
 have ih':∀k∈kids,Uz ps bs k:=λk hk=>ih k hk (F.ok_kid hok hk) (hfk k hk);have ok1:=hok.1 (.mk op n ins kids) (by rw[F.nodes_eq];simp);intro t ht h x hx hl;refine As k71 rfl (ATs _) hl (by simp[D.lt]) ?_;obtain⟨R,hR⟩:∃R,F.hold (isT ps.length bs) (.mk op n ins kids) t=R:=⟨_,rfl⟩;rw[hR];rw[F.hold]at hR;have q2:=(AQd t n ht).fsp;have q2b:=λh1 h2=>(AQc ins ok1.2.2.1 (by have:=t7 _ hfo;simp only[F.ins]at this;omega) (Jk t n).1 (Jk t n).2 h1 h2).fsp;have Vh:=λk hk=>Wf (.mk op n ins kids) h x hx hl k (ih' k hk) t ht;have hlow:=PE (.mk op n ins kids) t hl (CJ hx);have hvn:i64 (Jk t n).1∧i64 (Jk t n).2:=by
  unfold Jk U2;cases hf:t.vs.find? λx=>x.a==n with
  |none=>exact⟨⟨by decide,by decide⟩,⟨by decide,by decide⟩⟩
  |some y=>
   obtain⟨cs,vs,pa⟩:=t;obtain⟨o1,o2,o3,o4,o5⟩:=ht;exact(o4 y (List.mem_of_find?_eq_some hf)).2
 replace q2b:=q2b hvn.1 hvn.2
 clear hvn;have hc4:op=4→FX 149 [.v (.list (kids.map F.V)),.func 161 [.ref (h.length+3) 0]] (h++hZ h x (.mk op n ins kids) t) [.v (.bool (!kids.all λk=>k.hold (isT ps.length bs) t))] (h++hZ h x (.mk op n ins kids) t):=by
  intro _;have hidx:IdxR Tryz.prog GLx 161 [.ref (h.length+3) 0] (kids.map F.V) (h++hZ h x (.mk op n ins kids) t) (kids.findIdx? λk=> !k.hold (isT ps.length bs) t) (h++hZ h x (.mk op n ins kids) t):=
   IdxR.map λk hk=>AQa k _ (ATU h x _ t) hlow _ (Vh k hk [.cells k.cells] (by intro row hrow;exact⟨k,ATy.1 hrow⟩))
  have:=tZ _ 161 _ (FV.r 161 (h.length+3) 0 []) (kids.map F.V) (by simp;omega) (wF kids) hidx;rw[Ed]at this;exact this
 have hc5:op=5→FX 149 [.v (.list (kids.map F.V)),.func 155 [.ref h.length 0,.ref (h.length+2) 0]] (h++hZ h x (.mk op n ins kids) t) [.v (.bool (kids.any λk=>k.hold (isT ps.length bs) t))] (h++hZ h x (.mk op n ins kids) t):=by
  intro _;have hidx:IdxR Tryz.prog GLx 155 [.ref h.length 0,.ref (h.length+2) 0] (kids.map F.V) (h++hZ h x (.mk op n ins kids) t) (kids.findIdx? λk=>k.hold (isT ps.length bs) t) (h++hZ h x (.mk op n ins kids) t):=
   IdxR.map λk hk=>by have:=Vh k hk [] (by simp);rw[AUh]at this;exact this
  have:=tZ _ 155 _ (FV.r 155 h.length 0 [.ref (h.length+2) 0]) (kids.map F.V) (by simp;omega) (wF kids) hidx;rw[Cn]at this;exact this
 obtain⟨cs,vs,pa⟩:=t;have ht':=ht;obtain⟨o1,o2,o3,o4,o5⟩:=ht';have q1:=ADB (.mk op n ins kids) cs vs pa h x hx hps hbs o1;simp only[F.holdA,F.holdO,LQ,LP]at hR;simp only[c71,AB,AA,AF,AE,xF,w9,w8,AQ];simp only[Th.cs,Th.ps,F.n]at hR q1;simp only[hZ,F.cells,F.op,F.n,F.ins,F.kids,F.V_eq,Th.cells,Th.cs,Th.vs,Th.ps,Th.V_eq]at*;simp[AL,AO]at*;simp only[wz];simp;by_cases b1:op=1
 ·simp[b1]at hR;simp[b1,AB,AA,wy];rw[b1]at q1;refine⟨_,_,q1,?_⟩;simp[AG,MU,hR]
 ·simp[b1]at hR;simp[b1,AB,AA,AE];simp only[wx];simp;by_cases b2:op=2
  ·simp[b2]at hR;simp[b2,AB,AA,ww];refine⟨_,_,q2 _,?_⟩;generalize U2 (Th.mk cs vs pa) n=O at*;generalize Jk (Th.mk cs vs pa) n=N at*;simp[A5]at q2b;simp[A5,AO,wv];cases O with
   |none=>simp at hR;simp[AG,MU,hR]
   |some y=>
    simp at hR;simp;refine⟨_,_,q2b _,?_⟩;simp[AG,MU,hR]
  ·simp[b2]at hR;simp[b2,AB,AA,AE];simp only[wu];simp;by_cases b3:op=3
   ·obtain⟨k,hk⟩:=Sq _ hfo (.inl b3);simp only[F.kids]at hk;subst hk;have q3:=ADA cs vs pa h x hx hl op n ins k (ih' k (by simp)) o3 o5;simp[hZ,F.cells,F.op,F.n,F.ins,F.kids,F.V_eq,Th.cells,Th.cs,Th.vs,Th.ps,Th.V_eq,AL]at q3;simp[b3,F.hold1]at hR q3;simp[b3,AB,AA,wt];refine⟨_,_,q3,?_⟩;simp[AG,MU,hR]
   ·simp[b3]at hR;simp[b3,AB,AA,AE];simp only[Xe];simp;by_cases b4:op=4
    ·have q4:=hc4 b4;simp[b4]at hR q4;simp[b4,AB,AA,Xd];refine⟨_,_,q4,?_⟩;simp[AG,MU,hR]
    ·simp[b4]at hR;simp[b4,AB,AA,AE];simp only[Xc];simp;by_cases b5:op=5
     ·have q5:=hc5 b5;simp[b5]at hR q5;simp[b5,AB,AA,Xb];refine⟨_,_,q5,?_⟩;simp[AG,MU,hR]
     ·simp[b5]at hR;simp[b5,AB,AA,AE];simp only[Xa];simp;by_cases b6:op=6
      ·obtain⟨k,hk⟩:=Sq _ hfo (.inr b6);simp only[F.kids]at hk;subst hk;have q6:=Vh k (by simp) [];obtain⟨ko,kn,ki,kk⟩:=k;simp[F.V_eq]at q6;simp[b6,F.hold1]at hR q6;simp[b6,AB,Aa,XZ,F.V_eq];refine⟨_,_,q6,?_⟩;simp[AG,MU,hR]
      ·simp[b6]at hR;simp[b6,AD,AA,XY,AG,MU,hR]
theorem D8 {P:Program} {GL:AV} {q:Opd} {ps:List Nat} {asg body:AC} {Q:AExit→St→Prop} {s:St} (n:Nat) (hn:s.h.length=n) (fid:Nat) (caps rets:List D) (h1 h':List Row) (tag:Tag)
  (hq:DR (q.ev s.e)=some (fid,caps)) (hh:s.h++[Ao P GL .ready (cpE s.e) ps asg body]=h1) (hf:FSp P GL fid (.yld n::caps) h1 rets h')
  (hr:h'[n]?=some (Ao P GL tag (cpE s.e) ps asg body)) (he:Bo Q ⟨s.e,h'.set n .dead⟩ tag):awp P GL (.rangeF q ps asg body) Q s:=by
 subst hn;exact CV fid caps rets h1 h' tag hq hh hf hr he
def okC (nc:Int) (g:F):Bool:= !(decide (g.op=1)&&decide (nc≤g.n))
theorem ADG {f:F} (h:BH f=0):f.nodes.all Ax=true:=by
 unfold BH at h;split at h
 ·cases h
 ·split at h
  ·assumption
  ·cases h
theorem WY (X J:List Row):Kz X.length (X++J)=X++List.replicate J.length .dead:=by
 simp[Kz]
theorem WU {h:List Row} (hl:Low h) (m:Nat):Low (h++List.replicate m .dead):=hl.apps (by
 intro row hrow;rw[List.eq_of_mem_replicate hrow];rfl)
section
variable {ps:List V} {bs:List Bool} (h:List Row) (x:Nat) (A B C:Row) (e0:Env)
def X25 (h:List Row) (x:Nat) (A B C:Row) (e0:Env) (v:Int) (t:Tag):List Row:=
 h++[.cells [.ref x 0],A,B,.cells [.v (.bool false)],.cells [.v (.int .i64 v)],C,Ao Tryz.prog GLx t e0 [23] Te Td]
theorem y25 (h3:AH e0 3= .ref h.length 0) (h6:AH e0 6= .ref (h.length+3) 0) (h7:AH e0 7= .ref (h.length+4) 0) (hx:h[x]?=some (CN ps bs)) (g:F) (J:List Row):∃J2,YSp Tryz.prog GLx (h.length+6) [.v g.V] (X25 h x A B C e0 0 .ready++J) (okC ps.length g)
   ((if okC ps.length g then X25 h x A B C e0 0 .ready else X25 h x A B C e0 7 (.done none))++(J++J2)):=by
 refine⟨[.cells g.cells],Ci (e0:=e0) (ps:=[23]) (asg:=Te) (body:=Td) (by simp[X25]) rfl ?_⟩;have q:=λZ=>p69 ps bs (h++Z) x (AS Z hx);have hok:okC ps.length g= !(decide (g.op=1)&&decide ((ps.length:Int)≤g.n)):=rfl;generalize okC ps.length g=b at*;obtain⟨op,n,ins,kids⟩:=g;simp only[F.cells,F.op,F.n,F.ins,F.kids,F.V_eq,X25]at*;simp only[FZ,Te,Td,AA,AF,AB,AE,AAg];simp[h3,h6,h7,AO];rw[Bq];refine Bm _ (λs hs=>⟨s,.inl rfl,hs⟩) ?_;simp only[AAf];simp[h3,h6,h7];by_cases b1:op=1
 ·simp[b1]at hok ⊢;by_cases b2:(ps.length:Int)≤n
  ·simp[b2]at hok;subst hok
   constructor
   ·refine⟨_,_,q _,?_⟩;simp[b2,AB,AA,gF,h6,h7,AO,AG,CH]
   ·refine⟨_,_,q _,?_⟩;simp[b2,AB,AA,gF,h6,h7,AO,AG,CH]
  ·simp[b2]at hok;subst hok
   constructor
   ·refine⟨_,_,q _,?_⟩;simp[b2,AD,CH]
   ·refine⟨_,_,q _,?_⟩;simp[b2,AD,CH]
 ·simp[b1]at hok ⊢;simp[hok,AD,CH,b1]
theorem l25 (h3:AH e0 3= .ref h.length 0) (h6:AH e0 6= .ref (h.length+3) 0) (h7:AH e0 7= .ref (h.length+4) 0) (hx:h[x]?=some (CN ps bs)):∀(ns:List F),
  RunY Tryz.prog GLx (h.length+6) (ns.map F.V) (X25 h x A B C e0 0 .ready) (ns.all (okC ps.length)) (if ns.all (okC ps.length) then X25 h x A B C e0 0 .ready else X25 h x A B C e0 7 (.done none)):=by
 intro ns;induction ns with
 |nil=>exact⟨rfl,rfl⟩
 |cons n ns ih=>
  have hy:=y25 h x A B C e0 h3 h6 h7 hx n;refine⟨okC ps.length n,_,?_,hy,?_⟩
  ·split<;>simp[X25]
  ·cases hf:okC ps.length n with
   |true=>
    simp only[if_true,AVS,hf,AUS];exact ih
   |false=>simp[hf]
end
def OB (nc:Int) (f:F) (t:Th):Int:=if BH f≠0 then BH f else if thE t≠0 then thE t else if f.nodes.all (okC nc)&&t.kinds nc then 0 else 7
theorem p25 {ps:List V} {bs:List Bool} (hps:ps.length≤64) (hbs:bs.length=4096) (f:F) (hf:f.ok) (t:Th) (ht:t.ok) (h:List Row) (x:Nat) (hx:h[x]?=some (CN ps bs)) (hl:Low h):
  FX 25 [.ref x 0,.v f.V,.v t.V] h [.v (.bool (decide (OB ps.length f t=0)&&f.hold (isT ps.length bs) t)),.v (.int .i64 (OB ps.length f t))] h:=by
 refine As k25 rfl (ATs _) hl (by simp[D.lt]) ?_;obtain⟨E,hE⟩:∃E,OB ps.length f t=E:=⟨_,rfl⟩;have hlow:Low (h++[.cells [.ref x 0],.cells f.cells,.cells t.cells,.cells [.v (.bool false)],.cells [.v (.int .i64 0)]]):=hl.apps (by
  intro row hrow;have:=CJ hx;simp only[ATt,AT2,or_false]at hrow;rcases hrow with rfl|rfl|rfl|rfl|rfl
  ·simp[Row.low,D.lts,D.lt];omega
  ·exact LN _ f
  ·exact Hb _ t
  ·simp[Row.low,D.lts,D.lt]
  ·simp[Row.low,D.lts,D.lt])
 have q1:=p66 f hf;have q2:=p67 t ht;have q3:=p65 [BH f,thE t] (by simp);have q4:=p68 f;have q5:=λZ=>p69 ps bs (h++Z) x (AS Z hx);have q6:=p70 ps.length t ht;have q7:=λ(h1:BH f=0)=>p71 hps hbs f hf (ADG h1) t ht;rw[hE];unfold OB at hE;generalize BH f=e1 at*;generalize thE t=e2 at*;obtain⟨B,hB⟩:∃B,f.hold (isT ps.length bs) t=B:=⟨_,rfl⟩;rw[hB]at q7 ⊢;generalize t.kinds ps.length=K at*;have hrun:=λe0 a1 a2 a3=>l25 (ps:=ps) (bs:=bs) h x (.cells f.cells) (.cells t.cells) (.cells f.cells) e0 a1 a2 a3 hx f.nodes;generalize f.nodes.all (okC ps.length)=O at*;obtain⟨op,n,ins,kids⟩:=f;obtain⟨cs,vs,pa⟩:=t;simp only[F.cells,F.op,F.n,F.ins,F.kids,F.V_eq,Th.cells,Th.cs,Th.vs,Th.ps,Th.V_eq]at*;simp[AL]at q1 q2 q3 q4;simp only[c25,AB,AA,AF,AE,AAm,AAl,AQ];simp[AL,AD];simp only[Aa,AAk];simp;refine⟨_,_,⟨rfl,rfl⟩,_,q1,?_⟩;simp;refine⟨_,_,⟨rfl,rfl⟩,_,q2,?_⟩;simp;refine⟨_,_,⟨rfl,rfl⟩,_,q3,?_⟩;generalize hfi:(List.find? (λx=>x != 0) [e1,e2]).getD 0=fe;have hfe:fe=if e1≠0 then e1 else e2:=by
  subst hfi;by_cases c1:e1=0
  ·by_cases c2:e2=0
   ·simp[c1,c2]
   ·simp[c1,c2]
  ·simp[c1]
 clear hfi q3;simp[AAj];by_cases b1:fe=0
 ·have c1:e1=0:=by
   by_cases c:e1=0
   ·exact c
   ·rw[if_pos c]at hfe;omega
  have c2:e2=0:=by rw[c1]at hfe;simpa[b1]using hfe.symm
  simp[c1,c2]at hE
  replace q7:=q7 c1
  simp[b1,AD,AA,AAh];refine⟨_,_,q4 _,?_⟩;simp;have hr:=hrun (cpE [(3,.ref h.length 0),(4,.ref (h.length+1) 0),(5,.ref (h.length+2) 0),(6,.ref (h.length+3) 0),(7,.ref (h.length+4) 0),(22,.func 147 [.ref (h.length+5) 0])]) rfl rfl rfl;obtain⟨J,hp⟩:=ta _ hf _ (h.length+5) _ _ _ hr (by simp[X25,F.cells,F.op,F.n,F.ins,F.kids])
  replace hp:=hp.kill (h.length+7)
  have hk:=λ(v:Int) (t:Tag) A B C e0=>WY (X25 h x A B C e0 v t) J;simp only[show ∀v t A B C e0,(X25 h x A B C e0 v t).length=h.length+7 from λv t A B C e0=>by simp[X25]]at hk;generalize J.length=m at hk;cases O with
  |false=>
   simp only[ATx,if_false,hk]at hp;refine D8 (h.length+6) (by simp) 147 [.ref (h.length+5) 0] [] _ _ (.done none) rfl ?_ hp ?_ ?_
   ·simp[X25,AL]
   ·simp[X25]
   ·have hE7:E=7:=by simpa using hE.symm
    simp[Bo,X25,AG,Qi,D.one?,D.v?,hE7]
  |true=>
   simp only[if_true,hk]at hp;refine D8 (h.length+6) (by simp) 147 [.ref (h.length+5) 0] [] _ _ .ready rfl ?_ hp ?_ ?_
   ·simp[X25,AL]
   ·simp[X25]
   ·simp at hE;simp[Bo,X25];have hL:Low (h++Row.cells [D.ref x 0]::Row.cells [D.v (V.int IntKind.i64 op),D.v (V.int IntKind.i64 n),D.v (V.list (List.map Ivl.V ins)),D.v (V.list (List.map F.V kids))]::
      Row.cells [D.v (AL IntKind.i64 cs),D.v (V.list (List.map Val.V vs)),D.v (V.list (List.map Th.V pa))]::Row.cells [D.v (V.bool false)]::Row.cells [D.v (V.int IntKind.i64 0)]::
      Row.cells [D.v (V.int IntKind.i64 op),D.v (V.int IntKind.i64 n),D.v (V.list (List.map Ivl.V ins)),D.v (V.list (List.map F.V kids))]::Row.dead::List.replicate m Row.dead):=by
     have h1:=hlow.app (row:=Row.cells [D.v (V.int IntKind.i64 op),D.v (V.int IntKind.i64 n),D.v (V.list (List.map Ivl.V ins)),D.v (V.list (List.map F.V kids))]) (by simp[Row.low,D.lts,D.lt]);have h2:=WU (h1.app (row:= .dead) rfl) m;simpa using h2
    replace q7:=q7 _ x (AS _ hx) hL
    rw[Bq];refine Bm _ (λs hs=>⟨s,.inl rfl,hs⟩) ?_;simp only[gG];simp;have hfin:E=(if K then 0 else 7):=hE.symm
    constructor
    ·refine⟨_,_,q5 _,?_⟩;simp;refine⟨_,_,⟨rfl,rfl⟩,_,q6,?_⟩;cases K with
     |false=>simp at hfin;simp[Qh,AO,AG,Qi,D.one?,D.v?,hfin]
     |true=>
      simp at hfin;simp[AD,Qg];refine⟨_,_,q7,?_⟩;simp[AO,AG,Qi,D.one?,D.v?,hfin]
    ·refine⟨_,_,q5 _,?_⟩;simp;refine⟨_,_,⟨rfl,rfl⟩,_,q6,?_⟩;cases K with
     |false=>simp at hfin;simp[Qh,AO,AG,Qi,D.one?,D.v?,hfin]
     |true=>
      simp at hfin;simp[AD,Qg];refine⟨_,_,q7,?_⟩;simp[AO,AG,Qi,D.one?,D.v?,hfin]
 ·have hEf:E=fe:=by
   rw[hfe,←hE];by_cases c:e1=0
   ·have c2:e2≠0:=by rw[c]at hfe;simp at hfe;omega
    simp[c,c2]
   ·simp[c]
  simp[b1,AB,AA,AAi,AO,AG,Qi,hEf,D.one?,D.v?]
theorem p63 (l:List Clm) (hl:∀c∈l,c.ok) (hn:l.length≤2^40) (hz:CL l=0) (i:Nat) (hi:i <l.length):PX 63 [.list (l.map Clm.V),.int .i64 i] [.int .i64 0]:=by
 refine AK k63 rfl ?_;have q:=(ACm l hl hn).fsp;rw[hz]at q;have h1:¬(i:Int) <0:=by omega
 have h2:¬((l.length:Int)≤i):=by omega
 have h3:¬(l.length≤i):=by omega
 simp only[c63,AB,AA,AE,ya,yZ,AY];simp at q ⊢;refine⟨_,_,q _,?_⟩;simp[AD,AA,yY,yX,h1,h2,h3,yW,AG,ALc]
def BR (f:F):List F:=if f.op=4 then f.kids else [f]
theorem AIZ (f:F):PX 141 [f.V] [.list ((BR f).map F.V)]:=by
 refine AK ATF rfl ?_;unfold BR;obtain⟨op,n,ins,kids⟩:=f;by_cases h:op=4<;>simp[AOm,awp,pz,py,px,pw,ABo,AY,F.V_eq,h,F.op,F.kids]
mutual
def F.tops:F→List F| .mk op n ins kids=>if op=5 then F.topss kids else [.mk op n ins kids]
def F.topss:List F→List F|[]=>[]|k::ks=>k.tops++F.topss ks
end
theorem Nd:∀l,F.topss l=l.flatMap F.tops
 |[]=>rfl
 |k::ks=>by simp[F.topss,Nd ks]
theorem F.tops_eq (op n:Int) (ins:List Ivl) (kids:List F):(F.mk op n ins kids).tops=if op=5 then kids.flatMap F.tops else [.mk op n ins kids]:=by
 rw[F.tops,Nd]
theorem AQr (f:F) (h:List Row):FX 139 [.v f.V] h [.func 242 [.ref h.length 0]] (h++[.cells f.cells]):=by
 refine AN ATG rfl ?_;obtain⟨op,n,ins,kids⟩:=f;simp[AOr,awp,qI,qH,ABt,AQ,F.V_eq,F.cells,F.op,F.n,F.ins,F.kids,D.vs?,D.v?]
theorem APy (x:F) (c:Nat) (h:List Row) (a:Nat) (hc:h[c]?=some (.cells [.func 243 [.ref a 0,.ref c 0]])) (b:Bool) (h':List Row)
  (hp:FX 243 [.v x.V,.ref a 0,.ref c 0] (h++[.cells x.cells]) [.v (.bool b)] h'):FX 244 [.v x.V,.ref c 0] h [.v (.bool (!b))] h':=by
 refine AN AST rfl ?_;have hc2:=AS [.cells x.cells] hc;obtain⟨xo,xn,xi,xk⟩:=x;simp only[F.cells,F.op,F.n,F.ins,F.kids,F.V_eq]at*;simp only[ANR,AB,AA,AF,AE,jL,jK,AQ];simp[hc2,D.vs?,D.v?];refine⟨_,_,hp,?_⟩;simp[AG,AAy]
theorem ARI (r:Nat) (a c:Nat) (kids:List F) (hk:∀k∈kids,∀X b X' J i j,a=X.length+i→c=X.length+j→RunY Tryz.prog GLx r (k.tops.map F.V) X b X'→J[i]?=some (.cells [.yld r])→J[j]?=some (.cells [.func 243 [.ref a 0,.ref c 0]])→
   ∃J',FX 243 [.v k.V,.ref a 0,.ref c 0] (X++J) [.v (.bool b)] (X'++(J++J'))):
  ∀(X:List Row) (b:Bool) (X':List Row) (J:List Row) (i j:Nat),a=X.length+i→c=X.length+j→RunY Tryz.prog GLx r ((kids.flatMap F.tops).map F.V) X b X'→J[i]?=some (.cells [.yld r])→J[j]?=some (.cells [.func 243 [.ref a 0,.ref c 0]])→
   ∃J' q,IdxR Tryz.prog GLx 244 [.ref c 0] (kids.map F.V) (X++J) q (X'++(J++J'))∧q.isSome= !b:=by
 induction kids with
 |nil=>
  rintro X b X' J i j ha hc ⟨rfl,rfl⟩ hi hj;exact⟨[],none,⟨rfl,by simp⟩,rfl⟩
 |cons k ks ih=>
  intro X b X' J i j ha hc hr hi hj;rw[AT8,AUN]at hr;obtain⟨b1,X1,h1,h2⟩:=hr.app;have hl:=h1.len;obtain⟨J1,hp⟩:=hk k (by simp) X b1 X1 (J++[.cells k.cells]) i j ha hc h1 (AS _ hi) (AS _ hj);have hcc:(X++J)[c]?=some (.cells [.func 243 [.ref a 0,.ref c 0]]):=by rw[Av X J c j hc];exact hj
  rw[←AT1]at hp;have hq:=APy k c (X++J) a hcc b1 _ hp;cases b1 with
  |true=>
   simp only[if_true]at h2;obtain⟨J2,q,h3,h4⟩:=ih (λx hx=>hk x (by simp[hx])) X1 b X' (J++[.cells k.cells]++J1) i j (by rw[hl];exact ha) (by rw[hl];exact hc) h2 (AS _ (AS _ hi)) (AS _ (AS _ hj));refine⟨[.cells k.cells]++J1++J2,q.map (· +1),⟨false,_,hq,?_⟩,by cases q<;>simpa using h4⟩
   simp only[ATx,if_false];refine⟨q,?_,rfl⟩;simpa[AT1]using h3
  |false=>
   simp only[ATx,if_false]at h2;obtain⟨rfl,rfl⟩:=h2;refine⟨[.cells k.cells]++J1,some 0,⟨true,_,hq,?_⟩,rfl⟩;simp[AT1]
theorem APz (r:Nat) (a c:Nat):∀f:F,f.ok→∀X b X' J i j,a=X.length+i→c=X.length+j→RunY Tryz.prog GLx r (f.tops.map F.V) X b X'→J[i]?=some (.cells [.yld r])→J[j]?=some (.cells [.func 243 [.ref a 0,.ref c 0]])→
   ∃J',FX 243 [.v f.V,.ref a 0,.ref c 0] (X++J) [.v (.bool b)] (X'++(J++J')):=by
 refine F.ind λop n ins kids ih hok=>?_;intro X b X' J i j ha hc hr hi hj;have hsz:=hok.2;rw[F.size_eq]at hsz;have hkl:=F.kids_len kids;rw[F.tops_eq]at hr;have ga:(X++(J++[.cells (F.mk op n ins kids).cells]))[a]?=some (.cells [.yld r]):=by rw[Av X _ a i ha];exact AS _ hi
 have gf:(X++(J++[.cells (F.mk op n ins kids).cells]))[X.length+J.length]?=some (.cells (F.mk op n ins kids).cells):=by rw[Av X _ _ J.length rfl];simp
 have hkids:∀x∈kids.map F.V,∃cs,x=V.agg cs∧cs.length=4:=by
  intro x hx;obtain⟨k,_,rfl⟩:=ATw.1 hx;obtain⟨ko,kn,ki,kk⟩:=k;exact⟨_,F.V_eq ..,rfl⟩
 by_cases h5:op=5
 ·rw[if_pos h5]at hr;obtain⟨J3,q,hidx,hq⟩:=ARI r a c kids (λk hk=>ih k hk (F.ok_kid hok hk)) X b X' (J++[.cells (F.mk op n ins kids).cells]) i j ha hc hr (AS _ hi) (AS _ hj);have hp:=tZ (.func 244 [.ref c 0]) 244 [.ref c 0] (FV.r 244 c 0 []) (kids.map F.V) (by simp;omega) hkids hidx;refine⟨[.cells (F.mk op n ins kids).cells]++J3,AN AJf rfl ?_⟩;simp only[F.cells,F.op,F.n,F.ins,F.kids,F.V_eq]at*;simp only[AFa,AB,AA,AF,AE,Qy,Qx,AQ];simp[h5,AD];simp[h5]at gf;simp[gf,D.vs?,D.v?,AD,AA,jM];simp[h5]at hp;rw[hq]at hp;refine⟨_,_,hp,?_⟩;simp[AG,jO]
 ·rw[if_neg h5]at hr;obtain⟨b1,X1,hl,hy,hr2⟩:=hr;obtain⟨J2,hy2⟩:=hy (J++[.cells (F.mk op n ins kids).cells]);have hbb:b=b1∧X'=X1:=by
   cases b1 with
   |true=>exact hr2
   |false=>exact hr2
  obtain⟨rfl,rfl⟩:=hbb;refine⟨[.cells (F.mk op n ins kids).cells]++J2,AN AJf rfl ?_⟩;simp only[F.cells,F.op,F.n,F.ins,F.kids,F.V_eq]at*;simp only[AFa,AB,AA,AF,AE,Qy,Qx,AQ];simp[-Bool.exists_bool];simp[gf,h5,AB,AA,jN,-Bool.exists_bool];simp[ga,gf,-Bool.exists_bool];refine⟨_,_,hy2,?_⟩;simp[AG,jO]
theorem AP0 (f:F) (hok:f.ok) (r q:Nat) (X:List Row) (b:Bool) (X':List Row) (hr:RunY Tryz.prog GLx r (f.tops.map F.V) X b X') (hq:X[q]?=some (.cells f.cells)):
  ∃J,FX 242 [.yld r,.ref q 0] X [] (X'++J):=by
 obtain⟨J',hp⟩:=APz r X.length (X.length+1) f hok X b X' [.cells [.yld r],.cells [.func 243 [.ref X.length 0,.ref (X.length+1) 0]]] 0 1 rfl rfl hr rfl rfl;refine⟨[.cells [.yld r],.cells [.func 243 [.ref X.length 0,.ref (X.length+1) 0]]]++J',AN ASU rfl ?_⟩;obtain⟨op,n,ins,kids⟩:=f;have hq2:=AS [.cells [.yld r],.cells [.func 243 [.ref X.length 0,.ref (X.length+1) 0]]] hq;simp only[F.cells,F.op,F.n,F.ins,F.kids,F.V_eq]at*;simp only[ANT,AB,AA,AF,AE,jS,jR,jQ,jP,AQ];simp[AO,D.vs?,D.v?]
 try simp at hq2
 simp[hq2];exact⟨⟨_,hp⟩,rfl⟩
theorem APG (l:List Int) (n:Int) (hn:l.length≤2^40):PX 337 [AL .i64 l,.int .i64 n] [.int .i64 (CK (l.findIdx? λx=>n==x))]:=by
 refine AK ARe rfl ?_;obtain⟨R,hR⟩:∃R,CK (l.findIdx? λx=>n==x)=R:=⟨_,rfl⟩;rw[hR];simp only[AMc,AB,AA,AF,aS,aR,AY];simp[AL];refine BK l.length (λk=>⟨[(0,.v (AL .i64 l)),(1,.v (.int .i64 n)),(7,.v (.int .i64 l.length)),(8,.v (.int .i64 k))],[]⟩) (λk=>CK (((l.drop k).findIdx? λx=>n==x).map (· +k))=R) (by simp[AL]) (by simpa using hR) ?_;intro k hk hI;simp only[aT,AB,AA,AF,AE,aQ];simp[AL];by_cases h1:k <l.length
 ·obtain⟨x,hx⟩:∃x,l[k]?=some x:=⟨_,ATo h1⟩;have hw:IntKind.i64.wrap ((k:Int)+1)=k+1:=AJ;rw[Eg hx,AUn]at hI;rw[if_pos (by omega),AD];simp only[AA,aP,aO];simp[hx];by_cases b1:n=x
  ·subst b1;simp[CK]at hI;simp[AB,AA,aN,AG,aU,hI]
  ·have b2:(n==x)=false:=by simp[b1]
   rw[b2]at hI;have hI':CK (((l.drop (k+1)).findIdx? λx=>n==x).map (· +(k+1)))=R:=by
    rw[←hI];cases (l.drop (k+1)).findIdx? λx=>n==x with
    |none=>rfl
    |some j=>simp[CK];omega
   simp[b1,AD,AA,aM,hw,h1];exact hI'
 ·have hk2:k=l.length:=by omega
  subst hk2;simp[CK]at hI;rw[if_neg (by omega),AM];simp[AA,AG,AB,aL,aU,hI]
theorem APO (l:List Int) (n:Int) (hn:l.length≤2^40):PX 316 [AL .i64 l,.int .i64 n] [.bool (l.any λx=>n==x)]:=by
 refine AK ARn rfl ?_;have q:=(APG l n hn).fsp;have hge:=EY (l.findIdx? λx=>n==x);rw[Cn]at hge;generalize CK (l.findIdx? λx=>n==x)=I at*;generalize (l.any λx=>n==x)=B at*;simp only[AMk,AB,AA,bu,bt,AY];simp[AL]at q ⊢;refine⟨_,_,q _,?_⟩;simp[AG,AAP,B8];by_cases h0:0≤I
 ·simp[h0,hge.1 h0]
 ·cases B with
  |false=>simp[h0]
  |true=>exact absurd (hge.2 rfl) h0
def Fv (r:Rgt):List Int:=if r.force=0 then ((List.range r.claims.length).map λ(i:Nat)=>(i:Int)).filter λi=> !(r.bad.any λx=>i==x) else []
theorem APk (r:Rgt) (h1:r.claims.length≤2^30) (h2:r.bad.length≤2^40):PX 273 [r.V] [AL .i64 (Fv r)]:=by
 refine AK ASE rfl ?_;unfold Fv;obtain⟨file,state,force,claims,dates,bad,owners,lics⟩:=r;simp only at h1 h2 ⊢;simp only[AM9,AB,AA,AF,AE,fq,fj,fg,AY];simp[Rgt.V,Rgt.cs,AL];by_cases hf:force=0
 ·subst hf;obtain⟨P,hP⟩:∃P:Int→Bool,(λi=> !(bad.any λx=>i==x))=P:=⟨_,rfl⟩;simp[AD,AA,fc];refine Ac claims.length (λk=>⟨[(1,.ref 0 0),(3,.own 3 1 ((((List.range k).map λ(i:Nat)=>(i:Int)).filter λi=> !(bad.any λx=>i==x)).map (.int .i64))),(11,.v (.int .i64 claims.length)),(12,.v (.int .i64 k))],
   [.cells ((Rgt.cs ⟨file,state,0,claims,dates,bad,owners,lics⟩).map .v)]⟩) (by simp[Rgt.cs,AL]) ?_
  intro k hk;simp only[ft,AB,AA,AF,AE,fZ];simp[Rgt.cs,AL];by_cases hlt:k <claims.length
  ·have hw:IntKind.i64.wrap ((k:Int)+1)=k+1:=AJ;have q:=(APO bad k h2).fsp;rw[if_pos (by omega),AD];have hlen:(((List.range k).map λ(i:Nat)=>(i:Int)).filter λi=> !(bad.any λx=>i==x)).length≤k:=by
    have:=AUi (λi=> !(bad.any λx=>i==x)) ((List.range k).map λ(i:Nat)=>(i:Int));simpa using this
   have hs:(((List.range (k+1)).map λ(i:Nat)=>(i:Int)).filter λi=> !(bad.any λx=>i==x))=(((List.range k).map λ(i:Nat)=>(i:Int)).filter λi=> !(bad.any λx=>i==x))++(if (bad.any λx=>(k:Int)==x) then [] else [(k:Int)]):=by
    rw[AUk,AUN,AVO]
    congr 1
    simp only[ATz,AVM,AVP,AVy];cases (bad.any λx=>(k:Int)==x)<;>rfl
   rw[hs];generalize (((List.range k).map λ(i:Nat)=>(i:Int)).filter λi=> !(bad.any λx=>i==x))=L at*;generalize (bad.any λx=>(k:Int)==x)=B at*;have hroom:Ah (L.length+1) 8=true:=by simp[Ah];omega
   simp[AL]at q;simp only[AA,fY,fX];simp;refine⟨_,_,q _,?_⟩;cases B with
   |true=>simp[AD,Qe,hw,hlt]
   |false=>simp[AA,fW,hroom,Qe,hw,hlt]
  ·have hk2:k=claims.length:=by omega
   subst hk2;rw[if_neg (by omega),AM];simp[AA,AG,AB,Ta,fu]
 ·simp[hf,AB,AA,ff,AG,fu]
def De:Nat→List V→List (V×V)
 |_,[]=>[]
 |k,v::vs=>(.int .i64 k,v)::De (k+1) vs
def Dl (vs:List V):Row:= .map (De 0 vs) (List.range vs.length) vs.length
theorem OO (v:V):∀(vs:List V) (k:Nat),De k (vs++[v])=De k vs++[(.int .i64 ((k+vs.length:Nat):Int),v)]
 |[],k=>rfl
 |x::vs,k=>by
  simp only[AUl,De,OO v vs (k+1),AUA];rw[show k+1+vs.length=k+(vs.length+1) by omega]
theorem F4:∀(vs:List V) (k i:Nat) (v:V),vs[i]?=some v→(De k vs)[i]?=some (.int .i64 ((k+i:Nat):Int),v)
 |x::vs,k,0,v,h=>by
  simp at h;subst h;rfl
 |x::vs,k,i+1,v,h=>by
  simp only[De,AU2];rw[F4 vs (k+1) i v (by simpa using h),show k+1+i=k+(i+1) by omega]
theorem Gv (st:Bool) (a:Int):∀(vs:List V) (k:Nat),Cl false [0] (.int .i64 a) (De k vs)=some (if (k:Int)≤a∧a <k+vs.length then some (a-k).toNat else none)
 |[],k=>by
  rw[if_neg (by simp)];rfl
 |x::vs,k=>by
  have hk:Be false [0] (.int .i64 k)=true:=by simp[Be,V.eqL,V.eq1,V.cells]
  simp only[De,Cl,hk,if_true,V.cells,V.eqL,V.eq1,AVk,Gv st a vs (k+1),AUA];by_cases h:a=k
  ·subst h;simp;omega
  ·have h2:(a==(k:Int))=false:=by simp[h]
   simp only[h2];by_cases h3:((k+1:Nat):Int)≤a∧a <((k+1:Nat):Int)+vs.length
   ·rw[if_pos h3,if_pos (by omega)];simp;omega
   ·rw[if_neg h3,if_neg (by omega)];rfl
theorem Nz (vs:List V) (v:V):Row.map (De 0 vs++[(.int .i64 (vs.length:Nat),v)]) (List.range vs.length++[vs.length]) (vs.length+1)=Dl (vs++[v]):=by
 unfold Dl;rw[OO,ATr,AV4,AUk,AUv]
def DA (acc:List F) (c:Clm):F:=if c.refs=[] then c.body else .mk 4 0 [] [c.body,.mk 5 0 [] (c.refs.map λr=>(acc[r.toNat]?).getD c.body)]
def A7 (l:List Clm):List F:=l.foldl (λacc c=>acc++[DA acc c]) []
theorem C9 (l:List Clm):(A7 l).length=l.length:=by
 have:∀(l:List Clm) (acc:List F),(l.foldl (λacc c=>acc++[DA acc c]) acc).length=acc.length+l.length:=by
  intro l;induction l with
  |nil=>simp
  |cons c l ih=>intro acc;rw[AVB,ih];simp;omega
 have h:=this l [];rw[AU3,AUv]at h;exact h
theorem PC (l:List Clm) (c:Clm):A7 (l++[c])=A7 l++[DA (A7 l) c]:=by
 unfold A7;rw[AVf];rfl
theorem Gw (l:List Clm) {k:Nat} {c:Clm} (h:l[k]?=some c):A7 (l.take (k+1))=A7 (l.take k)++[DA (A7 (l.take k)) c]:=by
 rw[AUE,h];exact PC _ _
theorem EA (l:List Clm):∀k,k≤l.length→A7 (l.take k)=(A7 l).take k:=by
 have:∀(l m:List Clm),(A7 (l++m)).take l.length=A7 l:=by
  intro l m;unfold A7;rw[AVf];have:∀(m:List Clm) (acc:List F),∃t,m.foldl (λacc c=>acc++[DA acc c]) acc=acc++t:=by
   intro m;induction m with
   |nil=>intro acc;exact⟨[],by simp⟩
   |cons c m ih=>
    intro acc;obtain⟨t,ht⟩:=ih (acc++[DA acc c]);exact⟨[DA acc c]++t,by rw[AVB,ht];simp⟩
  obtain⟨t,ht⟩:=this m (l.foldl (λacc c=>acc++[DA acc c]) []);rw[ht];have:=C9 l;unfold A7 at this;rw[AVq (by omega),AUG (by omega)]
 intro k hk;have h:=this (l.take k) (l.drop k);rw[AUe]at h;rw[←h,AUI,AU1 hk]
def CF (l:List Clm) (i:Int):F:=((A7 l)[i.toNat]?).getD (.mk 0 0 [] [])
section
variable {P:Program} {GL:AV}
theorem Inv.frzRow {g:Gh} {w:World} {μ:List Nat} {t:Nat→D} {u:Nat→Value} {h:List Row} {O:Nat→Prop} (hi:Inv g w μ t u h O) {r b n sz:Nat} {ds:List D} {xs:List V}
  (hr:h[r]?=some (.cells ds)) (hb:μ[r]?=some b) (hxl:xs.length=n) (hxc:∀x∈xs,x.cells.length=sz) (hvs:D.vs? (ds.take (n*sz))=some (xs.flatMap V.cells)):
  ∃g',Inv g' w μ t u (h.set r .dead) O∧Chg (λz=>z=b) g w g' w∧∀cap,n≤cap→RepV g' (.list xs) (.slice (some ⟨b,0,none⟩) n cap):=by
 obtain⟨vs,T,hheap,hall,hone,hgn⟩:=hi.rows r _ b hr hb;have hcl:=Ox hvs (hall.take (n*sz));obtain⟨ws,w1,w2,w3⟩:=Oy hxc hcl (λu hu=>hone u (AUU hu));have hwl:ws.length=n:=by rw[w1.1,hxl]
 let g':=g.put b 0 (vs.take (n*sz))
 have hgle:g.le g':=Gh.le_put _ λo _ _=>hgn o;have hchg:Chg (λz=>z=b) g w g' w:=⟨hgle,ATs _,λ_ _ _=>rfl,λb' _ hb' o=>Gh.put_other hb' o,rfl,rfl⟩;have hag:∀b' o v,g'.m b' o=some v→w.cell? ⟨b',o,none⟩=some v:=by
  intro b' o v hv;by_cases hb':b'=b
  ·subst hb';rw[cell_of_row w b' o _ _ _ hheap];simp only[g',Gh.put]at hv;split at hv
   ·rename_i hc;simp only[AVU]at hv;have h2:=hc.2.2;rw[AUH]at hv;split at hv
    ·simpa using hv
    ·cases hv
   ·rw[hgn]at hv;cases hv
  ·simp only[g',Gh.put_other hb']at hv;exact hi.agree b' o v hv
 have hinv:=hi.setAny hr hb .dead hchg hag (BB hheap) (λk ds d h=>by cases h);have hsz:∀i,i <n→((λi=>ws.getD i (.bool false)) i).cells.size=sz:=λi hi=>by
  have:i <ws.length:=by omega
  simp only[List.getD,ATo this,AT3];exact w3 _ (AUc this)
 refine⟨g',hinv,hchg,λcap hcap=>?_⟩;rw[←hxl];refine RepV.list xs ⟨b,0,none⟩ cap sz (λi=>ws.getD i (.bool false)) rfl (by omega) (λi x hi=>?_) (λi hi=>⟨hsz i (by omega),λj v hj=>?_⟩)
 ·obtain⟨u,hu,hru⟩:=w1.get hi;simp only[List.getD,hu,AT3];exact hru.mono hgle
 ·have hjs:j <sz:=by have:=(ATp.1 hj).1;have:=hsz i (by omega);simp at *;omega
  have:=Gh.put_at g b 0 (vs.take (n*sz)) (i*sz+j) v (by
   rw[w2,MH,hwl,DL hsz (by omega) hjs];exact hj)
  simpa using this
theorem FSp.frz {f:Nat} {args:List D} {h h':List Row} {ds cs:List D} {i r n sz:Nat} {xs:List V} (hf:FSp P GL f args h [.agg ds] h') (hi:ds[i]?=some (.sref r n)) (hr:h'[r]?=some (.cells cs))
  (hx:xs.length=n) (hxc:∀x∈xs,x.cells.length=sz) (hvs:D.vs? (cs.take (n*sz))=some (xs.flatMap V.cells)):FSp P GL f args h [.agg (ds.set i (.v (.list xs)))] (h'.set r .dead):=by
 obtain⟨h1,h2⟩:=hf;refine⟨h1,λg w μ us O hinv hgl hall htame=>(h2 g w μ us O hinv hgl hall htame).mono ?_⟩;rintro e w' ⟨v,g',μ',rfl,hi',hch,hμ⟩;have hrep:RepD g' w' μ' (.agg ds) v:=hi'.rep 0;obtain⟨vs,rfl,ha,ho,hn⟩:=hrep;obtain⟨u,hu,hru⟩:=ha.get hi;obtain⟨b,cap,hb,rfl,hnc⟩:=hru;obtain⟨g'',hinv'',hchg,hrv⟩:=hi'.frzRow hr hb hx hxc hvs;refine⟨_,g'',μ',rfl,?_,hch.trans (hchg.mono λz (hz:z=b) ho=>hi'.mo b (ATq hb) (hz▸ho)),hμ⟩;have hset:=hinv''.set (d:=0) (x:= .agg (ds.set i (.v (.list xs)))) (v:= .agg vs.toArray) ⟨vs,rfl,⟨by rw[AUr];exact ha.1,λj x v hj hv=>?_⟩,ho,λd hd v=>?_⟩ (λk=>by cases k<;>simp[AZ,AW])
 ·refine Eq.mp ?_ hset
  congr 1
  ·funext k
   cases k<;>simp[at0,BQ]
  ·funext k
   cases k<;>simp[at0]
 ·rw[AUY]at hj;by_cases hji:i=j
  ·subst hji;rw[if_pos rfl]at hj;split at hj
   ·simp only[ATm]at hj;subst hj;rw[hu]at hv;simp only[ATm]at hv;subst hv;exact hrv cap hnc
   ·cases hj
  ·rw[if_neg hji]at hj;refine(ha.2 j x v hj hv).chg hchg (ATu _) λb' hb'=>?_;rw[hn x (ATq hj) v]at hb';cases hb'
 ·rcases AUg hd with h3|rfl
  ·exact hn d h3 v
  ·rfl
theorem FSp.aggV {f:Nat} {args:List D} {h h':List Row} {xs:List V} (hf:FSp P GL f args h [.agg (xs.map .v)] h'):FSp P GL f args h [.v (.agg xs)] h':=by
 obtain⟨h1,h2⟩:=hf;refine⟨h1,λg w μ us O hinv hgl hall htame=>(h2 g w μ us O hinv hgl hall htame).mono ?_⟩;rintro e w' ⟨v,g',μ',rfl,hi',hch,hμ⟩;have hrep:RepD g' w' μ' (.agg (xs.map .v)) v:=hi'.rep 0;obtain⟨vs,rfl,ha,ho,hn⟩:=hrep;refine⟨_,g',μ',rfl,?_,hch,hμ⟩;have hset:=hi'.set (d:=0) (x:= .v (.agg xs)) (v:= .agg vs.toArray) (.agg' ⟨by simpa using ha.1,λi x v hx hv=>ha.2 i (.v x) v (by simp[hx]) hv⟩ ho) (λk=>BW _ _ _);refine Eq.mp ?_ hset
 congr 1
 ·funext k
  cases k<;>simp[at0,BQ]
 ·funext k
  cases k<;>simp[at0]
theorem FSp.trim {f:Nat} {args rets:List D} {h h' J:List Row} (hf:FSp P GL f args h rets (h'++J)) (hl:h.length≤h'.length) (hh:∀row∈h',Row.low h'.length row=true) (hr:∀d∈rets,D.lt h'.length d=true):FSp P GL f args h rets h':=by
 obtain⟨h1,h2⟩:=hf;refine⟨h1,λg w μ us O hinv hgl hall htame=>(h2 g w μ us O hinv hgl hall htame).mono ?_⟩;rintro e w' ⟨v,g',μ',rfl,hi',hch,hμ⟩;refine⟨v,g',μ'.take h'.length,rfl,hi'.low (WT (N4 hr)) hh,hch,?_⟩;obtain⟨tl,rfl⟩:=hμ;rw[List.take_append,AUG (by rw[hinv.len];exact hl)];exact AUj _ _
theorem Gu {f:Nat} {args rets:List V} (hf:FSp P GL f (args.map .v) [] (rets.map .v) []):PSp P GL f args rets:=by
 refine⟨hf.1,λg w us hag hgl hall=>?_⟩;have hinv:Inv g w [] Iu K4 [] (λb=>b <w.heap.size):=by
  refine⟨hag,λb hb=>hb,λn=>by simp[Iu,RepD,RepG,RepE],rfl,λr row b hr=>by simp at hr,λr r' b hr=>by simp at hr,λb hb=>by simp at hb,λp q b hp=>?_,λp b hp=>?_⟩
  ·exfalso;cases p with
   |tmp n k=>cases k<;>simp[blk,Iu,AZ,AW]at hp
   |cell r k=>simp[blk,Au,AW]at hp
  ·exfalso;cases p with
   |tmp n k=>cases k<;>simp[blk,Iu,AZ,AW]at hp
   |cell r k=>simp[blk,Au,AW]at hp
 refine(hf.2 g w [] us _ hinv hgl ⟨by simpa using hall.1,λi x v hx hv=>?_⟩ (λi d v hd hv=>?_)).mono ?_
 ·simp only[AT0,ATv]at hx;obtain⟨y,hy,rfl⟩:=hx;exact hall.2 i y v hy hv
 ·simp only[AT0,ATv]at hd;obtain⟨y,_,rfl⟩:=hd;simp[AW]
 ·rintro e w' ⟨v,g',μ',rfl,hi,hc,hμ⟩;obtain rfl:μ'=[]:=AUQ hi.len;have hr:=hi.rep 0;simp only[at0,if_true,IS]at hr;exact⟨v,g',rfl,hr,⟨hc.le,hc.size,λb hb _=>hc.heap b hb (λh=>h hb),λb hb _=>hc.gh b hb (λh=>h hb),hc.os,hc.out⟩,hi.agree⟩
end
theorem Wd (l:List Clm):CT 5 (l.map Clm.V)=true:=by cases l<;>rfl
theorem AI7 (X:List Row) (mx:Nat) (acc:List F) (hmx:X[mx]?=some (Dl (acc.map F.V))) (C Fr:Row) (refs:List Int) (hrefs:∀r∈refs,0≤r∧r <acc.length) (hn:refs.length≤8) (df:F) (v6 v19 v20 v21:V) (a7 a8:Nat) (Q:AExit→St→Prop)
  (hQ:∀e J,AH e 5= .mref mx→AH e 6= .v v6→AH e 7= .ref a7 0→AH e 8= .ref a8 0→AH e 9= .v (.bool true)→AH e 10= .ref (X.length+2) 0→AH e 19= .v v19→AH e 20= .v v20→AH e 21= .v v21→
   Q (.exit 2) ⟨e,X++(C::Fr:: .cells [.v (.int .i64 5),.v (.int .i64 0),.own 368 8 [],.own 84 4 ((refs.map λr=>(acc[r.toNat]?).getD df).map F.V)]::J)⟩):
  awp Tryz.prog GLx (.loop Md) Q ⟨[(5,.mref mx),(6,.v v6),(7,.ref a7 0),(8,.ref a8 0),(9,.v (.bool true)),(10,.ref (X.length+2) 0),(19,.v v19),(20,.v v20),(21,.v v21),(34,.v (AL .i64 refs)),(35,.v (.int .i64 refs.length)),(36,.v (.int .i64 (0:Nat)))],
   X++[C,Fr,.cells [.v (.int .i64 5),.v (.int .i64 0),.own 368 8 [],.own 84 4 []]]⟩:=by
 refine Ae refs.length (λk s=>∃J,s=⟨[(5,.mref mx),(6,.v v6),(7,.ref a7 0),(8,.ref a8 0),(9,.v (.bool true)),(10,.ref (X.length+2) 0),(19,.v v19),(20,.v v20),(21,.v v21),(34,.v (AL .i64 refs)),(35,.v (.int .i64 refs.length)),(36,.v (.int .i64 k))],
   X++(C::Fr:: .cells [.v (.int .i64 5),.v (.int .i64 0),.own 368 8 [],.own 84 4 (((refs.take k).map λr=>(acc[r.toNat]?).getD df).map F.V)]::J)⟩) ⟨[],by simp⟩ ?_
 rintro k s hk ⟨J,rfl⟩;simp only[Md,AB,AA,AF,AE,bg];simp[AL];by_cases hkl:k <refs.length
 ·obtain⟨r,hr⟩:∃r,refs[k]?=some r:=⟨_,ATo hkl⟩;have hrr:=hrefs r (ATq hr);obtain⟨g,hg⟩:∃g,acc[r.toNat]?=some g:=⟨_,ATo (by omega)⟩;have Ba:∀Z,(X++Z)[mx]?=some (.map (De 0 (acc.map F.V)) (List.range (acc.map F.V).length) (acc.map F.V).length):=λZ=>AS Z hmx;have hf:Cl false [0] (.int .i64 r) (De 0 (acc.map F.V))=some (some r.toNat):=by
   rw[Gv false,if_pos (by simp;omega)];simp
  have hgv:(De 0 (acc.map F.V))[r.toNat]?=some (.int .i64 r,g.V):=by
   have:=F4 (acc.map F.V) 0 r.toNat g.V (by simp[hg]);rw[this];simp;omega
  have w1:IntKind.i64.wrap ((k:Int)+1)=k+1:=AJ;have hroom:Ah (k+1) 64=true:=by simp[Ah];omega
  have hm:min k refs.length=k:=by omega
  have htk:(refs.map (F.V ∘ λr=>acc[r.toNat]?.getD df)).take (k+1)=(refs.map (F.V ∘ λr=>acc[r.toNat]?.getD df)).take k++[g.V]:=by rw[AUE,AT0,hr];simp[hg]
  rw[htk];obtain⟨go,gn,gi,gk⟩:=g;simp only[F.V_eq]at hgv;rw[if_pos (by omega),AD];simp only[AA,TV,TU];simp[hr,Ba,Be,V.eqL,V.eq1,hf,hgv,Dv];simp[AO,TT,hm,hroom,TS,w1,hkl,hg,F.V_eq]
 ·have hk2:k=refs.length:=by omega
  subst hk2;rw[if_neg (by omega),AM];change Q (.exit 2) _;rw[AUG (by simp),←AVN];refine hQ _ J ?_ ?_ ?_ ?_ ?_ ?_ ?_ ?_ ?_<;>rfl
structure MeanOK (T:List Clm):Prop where
 len:T.length≤32
 ok:∀c∈T,Clm.ok c
 refs:∀c∈T,c.refs.length≤8
 low:∀(k:Nat) (c:Clm),T[k]?=some c→∀r∈c.refs,0≤r∧r <k
 mean:∀f∈A7 T,f.ok∧BH f=0
def bq:AC:=(.seq (.reg Mb [5,6,8,19,20,21,67]) (.cond (.t 67 false) (.reg Ma [5,19,20,21]) .skip))
def AAO:AC:=(.seq (.seq (.reg QH [5,6,7,8,9,19,20,21,31]) (.cond (.t 31 false) (.seq (.reg QG [5,6,7,8,9,10,19,20,21]) (.seq (.seq (.reg QF [5,6,7,8,9,10,19,20,21,34,35,36]) (.block 2 (.loop Md))) (.reg Mc [5,6,8,9,19,20,21]))) .skip)) bq)
theorem Ve:QL=(.seq (.reg QK [5,19,20,21,22]) (.seq (.cond (.t 22 false) .skip (.exit 0)) (.seq (.block 1 (.seq (.reg QJ [5,6,7,19,20,21]) (.seq (.reg QI [5,6,7,8,9,19,20,21]) AAO))) (.reg Jb [5,19,20,21])))):=rfl
theorem AI6 (h:List Row) (acc:List F) (f:F) (hf:f.ok∧BH f=0) (k:Nat) (hk:acc.length=k) (v19 v20:V) (J:List Row) (a8:Nat) (Q:AExit→St→Prop)
  (hQ:∀e J,AH e 5= .mref h.length→AH e 19= .v v19→AH e 20= .v v20→AH e 21= .v (.int .i64 k)→Q .normal ⟨e,h++Dl ((acc++[f]).map F.V)::J⟩)
  (ds:List D) (hcp:ds.map D.copy=[.v (.int .i64 f.op),.v (.int .i64 f.n),.v (.list (f.ins.map Ivl.V)),.v (.list (f.kids.map F.V))]) (hJ:(h++Dl (acc.map F.V)::J)[a8]?=some (.cells ds)):
  ∀e,AH e 5= .mref h.length→AH e 6= .v (.int .i64 k)→AH e 8= .ref a8 0→AH e 9= .v (.bool true)→AH e 19= .v v19→AH e 20= .v v20→AH e 21= .v (.int .i64 k)→
   awp Tryz.prog GLx bq Q ⟨e,h++Dl (acc.map F.V)::J⟩:=by
 intro e f5 f6 f8 f9 f19 f20 f21;have q:=(p66 f hf.1).fsp;rw[hf.2]at q;have hmf:Cl false [0] (.int .i64 k) (De 0 (acc.map F.V))=some none:=by
  rw[Gv false,if_neg (by simp;omega)]
 have hput:=Nz (acc.map F.V) f.V;rw[←List.map_singleton (f:=F.V),←AUN,AT9,hk]at hput;have hmr:Dl (acc.map F.V)= .map (De 0 (acc.map F.V)) (List.range k) k:=by unfold Dl;rw[AT9,hk]
 rw[hmr]at hJ ⊢;obtain⟨op,n,ins,kids⟩:=f;simp only[F.V_eq,F.op,F.n,F.ins,F.kids]at q hcp hput;have hdl:ds.length=4:=by have:=congrArg List.length hcp;simpa using this
 simp only[bq,AB,AA,AE,Mb];simp[f5,f6,f8,f9,f19,f20,f21,hJ,hcp,hdl]at q ⊢;refine⟨_,_,q _,?_⟩;simp[AA,Ma,f5,f6,f8,f9,f19,f20,f21,hJ,hcp,hdl,Be,V.eqL,V.eq1,hmf,Dv];rw[hput];exact hQ _ _ rfl rfl rfl rfl
theorem ARG (T:List Clm) (hT:MeanOK T) (h:List Row) (Q:AExit→St→Prop)
  (hQ:∀e J,AH e 5= .mref h.length→Q (.exit 0) ⟨e,h++Dl ((A7 T).map F.V)::J⟩):
  awp Tryz.prog GLx (.loop QL) Q ⟨[(5,.mref h.length),(19,.v (.list (T.map Clm.V))),(20,.v (.int .i64 T.length)),(21,.v (.int .i64 (0:Nat)))],h++[Dl []]⟩:=by
 refine Ae T.length (λk s=>∃J,s=⟨[(5,.mref h.length),(19,.v (.list (T.map Clm.V))),(20,.v (.int .i64 T.length)),(21,.v (.int .i64 k))],h++Dl ((A7 (T.take k)).map F.V)::J⟩) ⟨[],by simp[A7]⟩ ?_;rintro k s hk ⟨J,rfl⟩;rw[Ve];simp only[AB,AA,AF,AE,QK];simp;by_cases hkl:k <T.length
 ·obtain⟨c,hc⟩:∃c,T[k]?=some c:=⟨_,ATo hkl⟩;have hTl:=hT.len;have hcm:=ATq hc;have w1:IntKind.i64.wrap ((k:Int)+1)=k+1:=AJ;have hmt:=Gw T hc;have hal:(A7 (T.take k)).length=k:=by rw[C9,AUI];omega
  have hfk:DA (A7 (T.take k)) c∈A7 T:=by
   have h1:DA (A7 (T.take k)) c∈A7 (T.take (k+1)):=by rw[hmt];simp
   rw[EA T (k+1) hkl]at h1;exact AUU h1
  have hf:=hT.mean _ hfk;have hlow:=hT.low k c hc;have hrf:=hT.refs c hcm;rw[hmt];generalize A7 (T.take k)=acc at*;obtain⟨refs,body⟩:=c;have hz:=λ(f:F) (hf:f.ok∧BH f=0) J a8 Q=>AI6 h acc f hf k hal (.list (T.map Clm.V)) (.int .i64 T.length) J a8 Q;simp only at hlow hrf;rw[if_pos (by omega),AD];simp only[AA,QJ,QI];simp[hc,Clm.V,AO];unfold AAO;simp only[AB,AA,AE,QH];simp[AL];by_cases hr0:refs=[]
  ·subst hr0;have hme:DA acc ⟨[],body⟩=body:=by simp[DA]
   rw[hme]at hf ⊢;simp[AD];have Ba:∀(m a b:Row),(h++m::(J++[a,b]))[h.length+J.length+2]?=some b:=by
    intro m a b;have:=List.getElem?_concat_length (l:=h++m::(J++[a])) (a:=b);simp only[AT1,AUl,ATr,AUA,AU3,AWX,AV6,←Nat.add_assoc]at this;exact this
   refine hz body hf _ (h.length+J.length+2) _ ?_ [.v (.int .i64 body.op),.v (.int .i64 body.n),.v (.list (body.ins.map Ivl.V)),.v (.list (body.kids.map F.V))] rfl (Ba _ _ _) _ rfl rfl rfl rfl rfl rfl rfl;intro e J' g5 g19 g20 g21;simp[AA,Jb,g5,g19,g20,g21,w1,hkl]
  ·have h0:0 <refs.length:=by cases refs with|nil=>exact absurd rfl hr0|cons=>simp
   rw[if_pos h0];simp only[AA,QG];simp;simp only[AA,AF,QF];simp;have hgm:∀Z,(h++Dl (acc.map F.V)::J++Z)[h.length]?=some (Dl (acc.map F.V)):=λZ=>by simp
   have hi:=λC Fr v6 v19 v20 v21 a7 a8 Q=>AI7 (h++Dl (acc.map F.V)::J) h.length acc (by simp) C Fr refs (λr hr=>by have:=hlow r hr;omega) hrf body v6 v19 v20 v21 a7 a8 Q;simp[AL]at hi;simp[AO];rw[show h.length+(J.length+2+1)=h.length+(J.length+1)+2 by omega];refine hi _ _ _ _ _ _ _ _ _ ?_;intro e J' g5 g6 g7 g8 g9 g10 g19 g20 g21;rw[show h.length+(J.length+1)+2=h.length+(J.length+2+1) by omega]at g10;simp only[AA,Mc];simp[g5,g6,g7,g8,g9,g10,g19,g20,g21];simp[AO,g5,g6,g7,g8,g9,g10,g19,g20,g21];have Ba:∀(m a b:Row) (Z:List Row),(h++m::(J++a::b::Z))[h.length+(J.length+1+1)]?=some b:=by
    intro m a b Z;simp
   refine hz (DA acc ⟨refs,body⟩) hf _ (h.length+(J.length+1+1)) _ ?_ _ ?_ (Ba _ _ _ _) _ rfl rfl rfl rfl rfl rfl rfl
   ·intro e J' g5 g19 g20 g21;simp[AA,Jb,g5,g19,g20,g21,w1,hkl]
   ·obtain⟨o,n,i,kk⟩:=body;simp[DA,hr0,F.op,F.n,F.ins,F.kids,F.V_eq]
 ·have hk2:k=T.length:=by omega
  subst hk2;rw[if_neg (by omega),AM];rw[AUT];exact hQ _ J rfl
theorem MeanOK.take {l:List Clm} (h:MeanOK l) (k:Nat) (hk:k≤l.length):MeanOK (l.take k) where
 len:=by have:=h.len;rw[AUI];omega
 ok:=λc hc=>h.ok c (AUU hc)
 refs:=λc hc=>h.refs c (AUU hc)
 low:=λj c hj=>h.low j c (by rw[AUH]at hj;split at hj;exact hj;cases hj)
 mean:=λf hf=>h.mean f (by rw[EA l k hk]at hf;exact AUU hf)
theorem APN (l:List Clm) (hT:MeanOK l) (i:Nat) (hi:i <l.length) (h:List Row) (hl:Low h):
  FX 317 [.v (.list (l.map Clm.V)),.v (.int .i64 i)] h [.mref h.length] (h++[Dl ((A7 (l.take (i+1))).map F.V)]):=by
 refine As ARm rfl (by simp) (hl.app rfl) (by simp[D.lt]) ?_;have hloop:=ARG (l.take (i+1)) (hT.take (i+1) hi) h;have hlen:=hT.len;have w1:IntKind.i64.wrap ((i:Int)+1)=i+1:=AJ;have e1:((i:Int)+1).toNat=i+1:=by omega
 have hho:=Wd l;have htl:(l.take (i+1)).length=i+1:=by rw[AUI];omega
 have hml:(List.take (i+1) (l.map Clm.V))=(l.take (i+1)).map Clm.V:=by rw[AUM]
 have hmm:Dl []= .map [] [] 0:=rfl;rw[hmm,htl]at hloop;simp only[AMj,AB,AA,AF,bp,bj,bh,AQ];simp[w1,e1,hho,show 0≤(i:Int)+1 by omega,show i+1≤l.length from hi];simp at hloop;refine hloop _ ?_;intro e J g5;simp[TR,g5,AG,AAN]
theorem APj (l:List Clm) (i:Nat) (hi:i <l.length) (hT:MeanOK l) (hz:CL l=0):PX 274 [.list (l.map Clm.V),.int .i64 i] [(CF l i).V,.int .i64 0]:=by
 refine Gu (args:=[_,_]) (rets:=[_,_]) ?_;refine As ASD rfl (ATs _) (by intro row h;cases h) (by simp[D.lt]) ?_;have hlen:=hT.len;have q1:=(p63 l hT.ok (by omega) hz i hi).fsp;have q2:=APN l hT i hi [.cells [.v (.int .i64 0),.v (.int .i64 0),.own 368 8 [],.own 84 4 []]] (by intro row h;simp at h;subst h;rfl);have hin:¬(((i:Int) <0)∨(l.length:Int)≤i):=by omega
 obtain⟨f,hf⟩:∃f,(A7 l)[i]?=some f:=⟨_,ATo (by rw[C9];exact hi)⟩;have hf2:(A7 (l.take (i+1)))[i]?=some f:=by
  rw[EA l (i+1) hi,AUH,if_pos (by omega)];exact hf
 have hfa:CF l i=f:=by unfold CF;simp[hf]
 have hn:((A7 (l.take (i+1))).map F.V).length=i+1:=by rw[AT9,C9,AUI];omega
 have hm:Cl false [0] (.int .i64 i) (De 0 ((A7 (l.take (i+1))).map F.V))=some (some i):=by
  rw[Gv false,if_pos (by rw[hn];omega)];simp
 have hg:(De 0 ((A7 (l.take (i+1))).map F.V))[i]?=some (.int .i64 i,f.V):=by
  have:=F4 ((A7 (l.take (i+1))).map F.V) 0 i f.V (by simp[hf2]);simpa using this
 rw[hfa];unfold Dl at q2;generalize (A7 (l.take (i+1))).map F.V=es at*;obtain⟨go,gn,gi,gk⟩:=f;simp only[F.V_eq]at*;simp only[AM8,AB,AA,AE,fV,AQ];simp;simp only[AA,fU];simp;refine⟨_,_,q1 _,?_⟩;simp[fT,fS];simp at q2;refine⟨_,_,q2,?_⟩;simp[Be,V.eqL,V.eq1,hm,hg,Dv,AO,AD,AA,fR,fQ,AG,AAd,D.one?]
def BX (p:Int×Int):V:= .agg [.int .i64 p.1,.int .i64 p.2]
def Dq (I:Int→Int→Bool) (t:Th) (r:Rgt):List (Int×Int):=((Fv r).filter λi=>(CF r.claims i).hold I t).map λi=>(r.file,i)
def BZ (I:Int→Int→Bool) (t:Th) (rs:List Rgt):List (Int×Int):=rs.flatMap (Dq I t)
theorem N5 {r:Rgt} {i:Int} (h:i∈Fv r):0≤i∧i <r.claims.length:=by
 unfold Fv at h;split at h
 ·obtain⟨k,hk,rfl⟩:=ATw.1 (AVL.1 h).1;have:=AUC.1 hk;omega
 ·cases h
theorem IW (r:Rgt):(Fv r).length≤r.claims.length:=by
 unfold Fv;split
 ·have:=AUi (λi=> !(r.bad.any λx=>i==x)) ((List.range r.claims.length).map λ(i:Nat)=>(i:Int));simpa using this
 ·simp
structure Rgt.fine (nc:Int) (r:Rgt):Prop where
 bad:r.bad.length≤2^40
 mean:MeanOK r.claims
 z:CL r.claims=0
 cls:∀f∈A7 r.claims,f.nodes.all (okC nc)=true
theorem Rgt.fine.meanAt {nc:Int} {r:Rgt} (h:r.fine nc) {i:Int} (hi:0≤i∧i <r.claims.length):CF r.claims i∈A7 r.claims:=by
 unfold Go.Va.CF;have hl:=C9 r.claims;have hx:(A7 r.claims)[i.toNat]?=some (A7 r.claims)[i.toNat]:=ATo (by omega);rw[hx];exact AUc _
theorem Rgt.fine.hld {nc:Int} {r:Rgt} (h:r.fine nc) {i:Int} (hi:0≤i∧i <r.claims.length) {t:Th} (ht:thE t=0) (hk:t.kinds nc=true):OB nc (Go.Va.CF r.claims i) t=0:=by
 have hm:=h.meanAt hi;unfold OB;rw[(h.mean.mean _ hm).2,ht,h.cls _ hm,hk];rfl
def Lows (J:List Row):Prop:=∀row∈J,∀n,Row.low n row=true
theorem Lows.nil:Lows []:=λrow h=>by cases h
theorem Lows.app {J:List Row} (h:Lows J) {row:Row} (hr:∀n,row.low n=true):Lows (J++[row]):=by
 intro x hx n;rcases AT7.1 hx with hx|hx
 ·exact h x hx n
 ·rw[ATy.1 hx];exact hr n
theorem Low.lows {h J:List Row} (hl:Low h) (hJ:Lows J):Low (h++J):=hl.apps λrow hr=>hJ row hr _
theorem AJI {ps:List V} {bs:List Bool} (hps:ps.length≤64) (hbs:bs.length=4096) (h:List Row) (x:Nat) (hx:h[x]?=some (CN ps bs)) (hl:Low h) (t:Th) (ht:t.ok) (hte:thE t=0) (htk:t.kinds ps.length=true)
  (r:Rgt) (hr:r.fine ps.length) (O8:∀i:Int,0≤i→i <r.claims.length→PX 274 [.list (r.claims.map Clm.V),.int .i64 i] [(CF r.claims i).V,.int .i64 0])
  (O:List (Int×Int)) (hO:O.length≤2^20) (S:List Int) (hS:∀i∈S,0≤i∧i <r.claims.length) (hSn:S.length≤2^20) (v24 v25 v26:V) (J:List Row) (hJ:Lows J) (a11:Nat)
  (ha11:(h++ .cells t.cells::J)[a11]?=some (.cells (r.cs.map .v))) (Q:AExit→St→Prop)
  (hQ:∀e J',Lows J'→AH e 0= .ref x 0→AH e 5= .ref h.length 0→AH e 9= .own 76 2 ((O++(S.filter λi=>(CF r.claims i).hold (isT ps.length bs) t).map λi=>(r.file,i)).map BX)→AH e 24= .v v24→AH e 25= .v v25→AH e 26= .v v26→Q (.exit 2) ⟨e,h++ .cells t.cells::J'⟩):
  awp Tryz.prog GLx (.loop My) Q ⟨[(0,.ref x 0),(5,.ref h.length 0),(9,.own 76 2 (O.map BX)),(11,.ref a11 0),(24,.v v24),(25,.v v25),(26,.v v26),(31,.v (AL .i64 S)),(32,.v (.int .i64 S.length)),(33,.v (.int .i64 (0:Nat)))],h++ .cells t.cells::J⟩:=by
 refine Ae S.length (λk s=>∃J',Lows J'∧s=⟨[(0,.ref x 0),(5,.ref h.length 0),(9,.own 76 2 ((O++((S.take k).filter λi=>(CF r.claims i).hold (isT ps.length bs) t).map λi=>(r.file,i)).map BX)),(11,.ref a11 0),(24,.v v24),(25,.v v25),(26,.v v26),(31,.v (AL .i64 S)),(32,.v (.int .i64 S.length)),(33,.v (.int .i64 k))],
   h++ .cells t.cells::(J++J')⟩) ⟨[],Lows.nil,by simp⟩ ?_
 rintro k s hk ⟨J',hJ',rfl⟩;simp only[My,AB,AA,AF,AE,UV];simp[AL];by_cases hkl:k <S.length
 ·obtain⟨i,hi⟩:∃i,S[k]?=some i:=⟨_,ATo hkl⟩;have him:=hS i (ATq hi);have w1:IntKind.i64.wrap ((k:Int)+1)=k+1:=AJ;have htk2:S.take (k+1)=S.take k++[i]:=by rw[AUE,hi];rfl
  have Ba:∀Z,(h++ .cells t.cells::(J++Z))[a11]?=some (.cells (r.cs.map .v)):=λZ=>by have:=AS Z ha11;simpa using this
  have q1:=(O8 i him.1 him.2).fsp;have q2:=λ(Z:List Row) (hZ:Lows Z)=>p25 hps hbs (CF r.claims i) (hr.mean.mean _ (hr.meanAt him)).1 t ht (h++ .cells t.cells::(J++Z)) x (AS _ hx) (hl.lows (by
   intro row hrow n;rcases ATt.1 hrow with rfl|hrow
   ·exact Hb n t
   ·rcases AT7.1 hrow with hrow|hrow
    ·exact hJ row hrow n
    ·exact hZ row hrow n))
  simp only[hr.hld him hte htk,decide_true,AUS]at q2;have hlen:((S.take k).filter λi=>(CF r.claims i).hold (isT ps.length bs) t).length≤k:=by
   have:=AUi (λi=>(CF r.claims i).hold (isT ps.length bs) t) (S.take k);rw[AUI]at this;omega
  have hfs:((S.take (k+1)).filter λi=>(CF r.claims i).hold (isT ps.length bs) t)=((S.take k).filter λi=>(CF r.claims i).hold (isT ps.length bs) t)++(if (CF r.claims i).hold (isT ps.length bs) t then [i] else []):=by
   rw[htk2,AVO,AVP,AVy]
  rw[hfs];generalize ((S.take k).filter λi=>(CF r.claims i).hold (isT ps.length bs) t)=L at*;generalize (CF r.claims i).hold (isT ps.length bs) t=B at*;generalize CF r.claims i=f at*;have hroom:Ah (O.length+L.length+1) 16=true:=by simp[Ah];omega
  have hlows:∀n,Row.low n (.cells f.cells)=true:=λn=>LN n f;obtain⟨fo,fn,fi,fk⟩:=f;obtain⟨cs,vs,pa⟩:=t;obtain⟨file,state,force,claims,dates,bad,owners,lics⟩:=r;simp only[F.cells,F.op,F.n,F.ins,F.kids,F.V_eq,Th.cells,Th.cs,Th.vs,Th.ps,Th.V_eq,Rgt.cs,AL]at*;simp at q1 Ba;have q2':=q2 _ (hJ'.app hlows)
  try simp at q2'
  rw[if_pos (by omega),AD];simp only[AA,UU];simp[hi];simp only[AA,UT];simp[Ba];refine⟨_,_,q1 _,?_⟩;simp[AO,US,AD];simp only[AA,UR];simp;refine⟨_,_,q2',?_⟩;simp[UQ,AD,UP];cases B with
  |false=>
   simp[AD,AA,Mw,w1,hkl];exact hJ'.app hlows
  |true=>
   simp[AA,UO,Ba,hroom,Mw,w1,hkl,BX,AO];exact hJ'.app hlows
 ·have hk2:k=S.length:=by omega
  subst hk2;rw[if_neg (by omega),AM];have hJJ:Lows (J++J'):=by
   intro row hrow n;rcases AT7.1 hrow with hrow|hrow
   ·exact hJ row hrow n
   ·exact hJ' row hrow n
  rw[AUT];exact hQ _ _ hJJ rfl rfl (by simp) rfl rfl rfl
def ABN:AC:=(.seq (.reg Mx [0,5,9,11,24,25,26,31,32,33]) (.block 2 (.loop My)))
theorem Vg:RL=(.seq (.reg RJ [0,5,9,24,25,26,27]) (.seq (.cond (.t 27 false) .skip (.exit 0)) (.seq (.block 1 (.seq (.reg RI [0,5,9,11,24,25,26]) ABN)) (.reg Mv [0,5,9,24,25,26])))):=rfl
theorem ARO {ps:List V} {bs:List Bool} (hps:ps.length≤64) (hbs:bs.length=4096) (h:List Row) (x:Nat) (hx:h[x]?=some (CN ps bs)) (hl:Low h) (t:Th) (ht:t.ok) (hte:thE t=0) (htk:t.kinds ps.length=true)
  (rs:List Rgt) (hr:∀r∈rs,r.fine ps.length) (hrl:rs.length≤2^10) (hrc:∀r∈rs,r.claims.length≤2^8)
  (O8:∀r∈rs,∀i:Int,0≤i→i <r.claims.length→PX 274 [.list (r.claims.map Clm.V),.int .i64 i] [(CF r.claims i).V,.int .i64 0]) (Q:AExit→St→Prop)
  (hQ:∀e J',AH e 9= .own 76 2 ((BZ (isT ps.length bs) t rs).map BX)→Q (.exit 0) ⟨e,h++ .cells t.cells::J'⟩):
  awp Tryz.prog GLx (.loop RL) Q ⟨[(0,.ref x 0),(5,.ref h.length 0),(9,.own 76 2 []),(24,.v (.list (rs.map Rgt.V))),(25,.v (.int .i64 rs.length)),(26,.v (.int .i64 (0:Nat)))],h++[.cells t.cells]⟩:=by
 refine Ae rs.length (λk s=>∃J',Lows J'∧s=⟨[(0,.ref x 0),(5,.ref h.length 0),(9,.own 76 2 ((BZ (isT ps.length bs) t (rs.take k)).map BX)),(24,.v (.list (rs.map Rgt.V))),(25,.v (.int .i64 rs.length)),(26,.v (.int .i64 k))],
   h++ .cells t.cells::J'⟩) ⟨[],Lows.nil,by simp[BZ]⟩ ?_
 rintro k s hk ⟨J',hJ',rfl⟩;rw[Vg];simp only[AB,AA,AF,AE,RJ];simp;by_cases hkl:k <rs.length
 ·obtain⟨r,hri⟩:∃r,rs[k]?=some r:=⟨_,ATo hkl⟩;have hrm:=ATq hri;have hrr:=hr r hrm;have w1:IntKind.i64.wrap ((k:Int)+1)=k+1:=AJ;have htk2:rs.take (k+1)=rs.take k++[r]:=by rw[AUE,hri];rfl
  have hfs:BZ (isT ps.length bs) t (rs.take (k+1))=BZ (isT ps.length bs) t (rs.take k)++Dq (isT ps.length bs) t r:=by
   rw[htk2];unfold BZ;rw[AVd];simp
  have hOl:(BZ (isT ps.length bs) t (rs.take k)).length≤2^20:=by
   have:∀(l:List Rgt),(∀r∈l,r.claims.length≤2^8)→(BZ (isT ps.length bs) t l).length≤2^8*l.length:=by
    intro l;induction l with
    |nil=>intro _;simp[BZ]
    |cons y l ih=>
     intro hy;have h1:=ih λz hz=>hy z (by simp[hz]);have h2:=hy y (by simp);have h3:=IW y;have h4:(Dq (isT ps.length bs) t y).length≤(Fv y).length:=by
      unfold Dq;rw[AT9];exact AUi _ _
     unfold BZ at h1 ⊢;rw[AT8,ATr,AUA,AVi];omega
   have:=this (rs.take k) λy hy=>hrc y (AUU hy);rw[AUI]at this;have:2^8*min k rs.length≤2^8*2^10:=AVv _ (by omega);omega
  have hc8:=hrc r hrm;have q1:=(APk r (by omega) hrr.bad).fsp;have hlive:=IW r;have hloop:=λv24 v25 v26 J hJ a11 ha11 Q=>AJI hps hbs h x hx hl t ht hte htk r hrr (O8 r hrm) _ hOl (Fv r) (λi hi=>N5 hi) (by omega) v24 v25 v26 J hJ a11 ha11 Q;rw[hfs];unfold Dq;generalize BZ (isT ps.length bs) t (rs.take k)=O at*;rw[if_pos (by omega),AD];simp only[AA,RI];have hcsl:∀n,Row.low n (.cells (r.cs.map .v))=true:=λn=>by simp only[Row.low];exact Sf _
  have hlp:=λQ=>hloop (.list (rs.map Rgt.V)) (.int .i64 rs.length) (.int .i64 k) (J'++[.cells (r.cs.map .v)]) (hJ'.app hcsl) (h.length+(J'.length+1)) (by
   simp) Q
  generalize hLR:Fv r=LR at*;obtain⟨file,state,force,claims,dates,bad,owners,lics⟩:=r;simp only[Rgt.V,Rgt.cs,AL]at*;simp at q1;simp[hri,Rgt.V,Rgt.cs,AL,AO];unfold ABN;simp only[AB,AA,AF,Mx];simp;refine⟨_,_,q1 _,?_⟩;simp[AL];simp[AL]at hlp;refine hlp _ ?_;intro e J2 hJ2 g0 g5 g9 g24 g25 g26;simp[AA,Mv,g0,g5,g9,g24,g25,g26,w1,hkl];exact hJ2
 ·have hk2:k=rs.length:=by omega
  subst hk2;rw[if_neg (by omega),AM,AUT];exact hQ _ _ rfl
theorem AQW {ps:List V} {bs:List Bool} (hps:ps.length≤64) (hbs:bs.length=4096) (h:List Row) (x:Nat) (hx:h[x]?=some (CN ps bs)) (hl:Low h) (t:Th) (ht:t.ok) (hte:thE t=0) (htk:t.kinds ps.length=true)
  (rs:List Rgt) (hr:∀r∈rs,r.fine ps.length) (hrl:rs.length≤2^10) (hrc:∀r∈rs,r.claims.length≤2^8)
  (O8:∀r∈rs,∀i:Int,0≤i→i <r.claims.length→PX 274 [.list (r.claims.map Clm.V),.int .i64 i] [(CF r.claims i).V,.int .i64 0]):
  FX 185 [.ref x 0,.v (.list (rs.map Rgt.V)),.v t.V] h [.own 76 2 ((BZ (isT ps.length bs) t rs).map BX),.v (.int .i64 0)] h:=by
 refine As ASs rfl (ATs _) hl (by simp[D.lt]) ?_;have q67:=(p67 t ht).fsp;rw[hte]at q67;have hloop:=λQ=>ARO hps hbs h x hx hl t ht hte htk rs hr hrl hrc O8 Q;have hth:t.V= .agg [AL .i64 t.cs,.list (t.vs.map Val.V),.list (t.ps.map Th.V)]:=by obtain⟨a,b,c⟩:=t;exact Th.V_eq ..
 rw[hth]at q67 ⊢;simp only[Th.cells]at hloop;simp[AL]at q67 hloop;simp only[AN8,AB,AA,AF,AE,oB,oA,AQ];simp[AL,AD,AA,n9];refine⟨_,_,q67 _,?_⟩;simp[AA,AE,nz,AD,nx,nw];refine hloop _ ?_;intro e J g9;simp[AA,UN,g9,AG,ABM]
theorem APh (r:Rgt) (f i:Int) (h:List Row) (q:Nat) (hq:h[q]?=some (.cells [.v (.int .i64 f),.v (.int .i64 i)])) (hl:Low h):FX 276 [.v r.V,.ref q 0] h [.v (.bool (r.file==f))] h:=by
 refine As ASB rfl (ATs _) hl (by simp[D.lt]) ?_;have hq':=λZ=>AS Z hq;simp[AM6,awp,fH,fG,AAc,AQ,Rgt.V,Rgt.cs,hq']
theorem APg (d:Dat) (f i j day:Int) (ds:List D) (h:List Row) (a b c:Nat) (ha:h[a]?=some (.cells [.v (.int .i64 f),.v (.int .i64 i)])) (hb:h[b]?=some (.cells [.v (.int .i64 j)])) (hc:h[c]?=some (.cells ds)) (hd:ds[3]?=some (.v (.int .i64 day))) (hl:Low h):
  FX 278 [.v d.V,.ref a 0,.ref b 0,.ref c 0] h [.v (.bool (((d.cl==i)&&(d.ix==j))&&decide (d.day <day)))] h:=by
 refine As ASA rfl (ATs _) hl (by simp[D.lt]) ?_;have ha':=λZ=>AS Z ha;have hb':=λZ=>AS Z hb;have hc':=λZ=>AS Z hc;have hlen:3 <ds.length:=(ATp.1 hd).1;have hlen4:4≤ds.length:=hlen;have hd2:ds[3]'hlen= .v (.int .i64 day):=(ATp.1 hd).2;cases h1:(d.cl==i)&&(d.ix==j)with
 |false=>simp[AFQ,awp,Qc,Qb,fC,AQ,Dat.V,ha',hb',hc',h1,V.eqL,V.eq1,AO]
 |true=>simp[AFQ,awp,Qc,Qb,fC,AQ,Dat.V,ha',hb',hc',h1,V.eqL,V.eq1,D.part,hd,hd2,hlen,hlen4,AO]
def mkA (a b:F):F:= .mk 4 0 [] (BR a++BR b)
def Dp (acc:List (List F)) (c:Clm):List F:=if c.refs=[] then c.body.tops else c.refs.flatMap λr=>((acc[r.toNat]?).getD []).flatMap λa=>c.body.tops.map λb=>mkA a b
def Br (l:List Clm):List (List F):=l.foldl (λacc c=>acc++[Dp acc c]) []
def CM (l:List Clm) (i:Int):List F:=((Br l)[i.toNat]?).getD []
def Ks (nc:Int) (al:List F):Prop:=al.length≤64∧∀f∈al,f.ok∧BH f=0∧f.nodes.all (okC nc)=true
theorem AKI {nc:Int} {al:List F} (h:Ks nc al) {f:F} (hf:f∈al) {t:Th} (ht:thE t=0) (hk:t.kinds nc=true):OB nc f t=0:=by
 obtain⟨_,h2,h3⟩:=h.2 f hf;unfold OB;rw[h2,ht,h3,hk];rfl
def K1 (r:Rgt) (i j day:Int):Bool:=r.dates.any λd=>((d.cl==i)&&(d.ix==j))&&decide (d.day <day)
def EP (I:Int→Int→Bool) (t:Th) (r:Rgt) (i day:Int):Nat→List F→Bool
 |_,[]=>false
 |k,a::al=>(a.hold I t&&K1 r i k day)||EP I t r i day (k+1) al
def Is (I:Int→Int→Bool) (t:Th) (r:Rgt) (i day:Int):Bool:=EP I t r i day 0 (CM r.claims i)
theorem Kn (I:Int→Int→Bool) (t:Th) (r:Rgt) (i day:Int) (b:F):∀(al:List F) (k:Nat),EP I t r i day k (al++[b])=(EP I t r i day k al||(b.hold I t&&K1 r i ((k+al.length:Nat):Int) day))
 |[],k=>by simp[EP]
 |a::al,k=>by
  simp only[AUl,EP,Kn I t r i day b al (k+1),AUA];rw[show k+1+al.length=k+(al.length+1) by omega,Bool.or_assoc]
def ABL:AC:=(.seq (.seq (.reg Mt [0,4,5,9,12,13,15,16,37,38,39,53]) (.cond (.t 53 false) (.seq (.reg UM [6,7]) .ret) .skip)) (.reg Ms [0,4,5,9,12,37,38,39]))
theorem Vf:RH=(.seq (.reg RG [0,4,5,9,12,37,38,39,40]) (.seq (.cond (.t 40 false) .skip (.exit 0)) (.seq (.block 1 (.seq (.reg RF [0,4,5,9,12,13,14,37,38,39]) (.seq (.reg Mu [0,4,5,9,12,13,15,16,37,38,39]) ABL))) (.reg IA [0,4,5,9,12,37,38,39])))):=rfl
theorem ARN {ps:List V} {bs:List Bool} (hps:ps.length≤64) (hbs:bs.length=4096) (H:List Row) (x:Nat) (hx:H[x]?=some (CN ps bs)) (hl:Low H) (t:Th) (ht:t.ok) (hte:thE t=0) (htk:t.kinds ps.length=true)
  (r:Rgt) (hrd:r.dates.length <2^40) (f i day:Int) (a4 a5 a9:Nat) (d0 d1 d2 d7 d8 d9 d10 d11 d12:D) (h4:H[a4]?=some (.cells [d0,d1,d2,.v (.int .i64 day),.v (AL .i64 t.cs),.v (.list (t.vs.map Val.V)),.v (.list (t.ps.map Th.V)),d7,d8,d9,d10,d11,d12]))
  (h5:H[a5]?=some (.cells [.v (.int .i64 f),.v (.int .i64 i)])) (h9:H[a9]?=some (.cells (r.cs.map .v))) (al:List F) (has:Ks ps.length al) (Q:AExit→St→Prop)
  (hQ:∀e J,AH e 12= .v (.bool (EP (isT ps.length bs) t r i day 0 al))→Q (.exit 0) ⟨e,H++J⟩):
  awp Tryz.prog GLx (.loop RH) Q ⟨[(0,.ref x 0),(4,.ref a4 0),(5,.ref a5 0),(9,.ref a9 0),(12,.v (.bool false)),(37,.v (.list (al.map F.V))),(38,.v (.int .i64 al.length)),(39,.v (.int .i64 (0:Nat)))],H⟩:=by
 refine Ae al.length (λk s=>∃J,Lows J∧s=⟨[(0,.ref x 0),(4,.ref a4 0),(5,.ref a5 0),(9,.ref a9 0),(12,.v (.bool (EP (isT ps.length bs) t r i day 0 (al.take k)))),(37,.v (.list (al.map F.V))),(38,.v (.int .i64 al.length)),(39,.v (.int .i64 k))],H++J⟩)
  ⟨[],Lows.nil,by simp[EP]⟩ ?_
 rintro k s hk ⟨J,hJ,rfl⟩;rw[Vf];simp only[AB,AA,AF,AE,RG];simp;by_cases hkl:k <al.length
 ·obtain⟨a,ha⟩:∃a,al[k]?=some a:=⟨_,ATo hkl⟩;have ham:=ATq ha;have hlen:=has.1;have w1:IntKind.i64.wrap ((k:Int)+1)=k+1:=AJ;have htk2:al.take (k+1)=al.take k++[a]:=by rw[AUE,ha];rfl
  have hbt:=Kn (isT ps.length bs) t r i day a (al.take k) 0;rw[←htk2,AUI,AU1 (by omega),AUv]at hbt;rw[hbt];have hx':=λZ=>AS Z hx;have h4':=λZ=>AS Z h4;have h5':=λZ=>AS Z h5;have h9':=λZ=>AS Z h9;have hlw:∀n,Row.low n (.cells [.v (.int .i64 k)])=true:=λn=>by simp[Row.low,D.lts,D.lt]
  have hlf:∀n,Row.low n (.cells a.cells)=true:=λn=>LN n a;have hJ2:Lows (J++[.cells [.v (.int .i64 k)],.cells a.cells]):=by
   have:=(hJ.app hlw).app hlf;simpa using this
  have q1:=p25 hps hbs a (has.2 a ham).1 t ht (H++(J++[.cells [.v (.int .i64 k)],.cells a.cells])) x (hx' _) (hl.lows hJ2);rw[AKI has ham hte htk]at q1;simp only[decide_true,AUS]at q1;have hH:Low (H++(J++[.cells [.v (.int .i64 k)],.cells a.cells])):=hl.lows hJ2;have hidx:IdxR Tryz.prog GLx 278 [.ref a5 0,.ref (H.length+J.length) 0,.ref a4 0] (r.dates.map Dat.V) (H++(J++[.cells [.v (.int .i64 k)],.cells a.cells])) (r.dates.findIdx? λd=>((d.cl==i)&&(d.ix==(k:Int)))&&decide (d.day <day)) (H++(J++[.cells [.v (.int .i64 k)],.cells a.cells])):=
   IdxR.map λd _=>APg d f i k day _ _ a5 (H.length+J.length) a4 (h5' _) (by rw[Av H _ _ J.length rfl];simp) (h4' _) rfl hH
  have hcf:=AIL (.func 278 [.ref a5 0,.ref (H.length+J.length) 0,.ref a4 0]) 278 _ (FV.r 278 a5 0 [.ref (H.length+J.length) 0,.ref a4 0]) (r.dates.map Dat.V) (by simpa using hrd) (by
   intro x hx;obtain⟨y,_,rfl⟩:=ATw.1 hx;exact⟨_,rfl,rfl⟩) hidx
  rw[Cn]at hcf;have hdb:(r.dates.any λd=>((d.cl==i)&&(d.ix==(k:Int)))&&decide (d.day <day))=K1 r i k day:=rfl;rw[hdb]at hcf;generalize K1 r i k day=B at*;generalize EP (isT ps.length bs) t r i day 0 (al.take k)=A at*;generalize a.hold (isT ps.length bs) t=T at*;obtain⟨fo,fn,fi,fk⟩:=a;obtain⟨cs,vs,pa⟩:=t;obtain⟨file,state,force,claims,dates,bad,owners,lics⟩:=r;simp only[F.cells,F.op,F.n,F.ins,F.kids,F.V_eq,Th.cells,Th.cs,Th.vs,Th.ps,Th.V_eq,Rgt.cs,AL]at*;simp at q1 hcf h4' h5' h9';rw[if_pos (by omega),AD];simp only[AA,RF];simp[ha,F.V_eq,AO];simp only[AA,Mu];simp[h4'];refine⟨_,_,q1,?_⟩;unfold ABL;simp[AB,AA,AE,Mt,AD];simp only[AA,Ms];simp;cases A with
  |true=>
   simp[IA,w1,hkl];exact hJ2
  |false=>
   cases T with
   |false=>
    simp[IA,w1,hkl];exact hJ2
   |true=>
    simp[h9'];refine⟨_,_,hcf,?_⟩;simp[IA,w1,hkl];exact hJ2
 ·have hk2:k=al.length:=by omega
  subst hk2;rw[if_neg (by omega),AM,AUT];exact hQ _ _ rfl
open Go.Proofs Go.Shelf
def rnG:Ren:=⟨λ|4=>245|n=>n,λ|22=>77|25=>84|n=>n,λn=>n⟩
theorem AIn:Lays8.n4 Tryz.prog rnG where
 mixed:=by kernel_rfl
 f4:=⟨Tryz.f245.name,by kernel_rfl,Tryz.func245.trans (congrArg some (by kernel_rfl))⟩
 t0:=Tryz.underlying0
 a0:=Tryz.isAgg0
 z0:=Tryz.sizeOf0
 v0:=Tryz.zeroValue0
 t3:=Tryz.underlying3
 a3:=Tryz.isAgg3
 z3:=Tryz.sizeOf3
 v3:=Tryz.zeroValue3
 t4:=Tryz.underlying4
 a4:=Tryz.isAgg4
 z4:=Tryz.sizeOf4
 v4:=Tryz.zeroValue4
 t9:=Tryz.underlying9
 a9:=Tryz.isAgg9
 z9:=Tryz.sizeOf9
 v9:=Tryz.zeroValue9
 t20:=Tryz.underlying20
 a20:=Tryz.isAgg20
 z20:=Tryz.sizeOf20
 v20:=Tryz.zeroValue20
 t22:=Tryz.underlying77
 a22:=Tryz.isAgg77
 z22:=Tryz.sizeOf77
 v22:=Tryz.zeroValue77
theorem AC7:∃i z,Tryz.prog.info? 84=some i∧i.zero=some z∧i.size=4∧z.cells.size=4∧i.bytes≤64:=by
 have hk:(match Tryz.prog.info? 84 with|some i=>(match i.zero with|some z=>i.size==4&&z.cells.size==4&&decide (i.bytes≤64)|none=>false)|none=>false)=true:=by kernel_rfl
 cases hi:Tryz.prog.info? 84 with
 |none=>rw[hi]at hk;cases hk
 |some i=>
  rw[hi]at hk;simp only at hk;cases hz:i.zero with
  |none=>rw[hz]at hk;cases hk
  |some z=>
   rw[hz]at hk;simp only[ATn,beq_iff_eq,decide_eq_true_eq]at hk;exact⟨i,z,rfl,hz,hk.1.1,hk.1.2,hk.2⟩
theorem APx (n:Nat) (hn:n≤2^30) (h:List Row):FX 245 [.nil 84 4,.v (.int .i64 n)] h [.own 84 4 []] h:=by
 refine⟨by kernel_rfl,λg w μ us O hinv hgl hall htame=>?_⟩;obtain⟨hlen,Ba⟩:=hall;obtain⟨u,v,rfl⟩:∃u v,us=[u,v]:=by
  match us,hlen with
  |[u,v],_=>exact⟨u,v,rfl⟩
 have hu:RepE g w μ (.nil 84 4) u:=Ba 0 _ u rfl rfl;have hv:RepV g (.int .i64 n) v:=Ba 1 (.v (.int .i64 n)) v rfl rfl;obtain⟨a,rfl,ha⟩:=hu;cases hv;rcases AVp n with rfl|hpos
 ·have c:=Any8.slices_Grow_room AIn a 0 0 0 w (by omega) (by omega) (by omega) (by omega);refine Calls.mono c ?_;rintro e w' ⟨rfl,rfl⟩;have hc:Chg (λ_=>False) g w' g w':=⟨Gh.le.refl g,ATs _,λ_ _ _=>rfl,λ_ _ _ _=>rfl,rfl,rfl⟩;exact⟨_,g,μ,rfl,hinv.newOwn (d:=0) hc hinv.agree (.inl ⟨a,rfl,rfl,ha⟩) (by intro b hb;cases a<;>simp[AW]at hb),hc.mono λ_ h=>h.elim,ATu _⟩
 ·obtain⟨i0,z,hi0,hz0,hs0,hzc,hby⟩:=AC7;have c:=Any8.slices_Grow_grow AIn i0 z hi0 hz0 (by omega) a 0 0 n [] w (by omega) (by omega) (by
   have:(0+n)*i0.bytes≤2^30*64:=Nat.mul_le_mul (by omega) hby;omega) (by omega) (by simp) (λ_=>rfl) (by simp)
  refine Calls.mono c ?_;rintro e w' ⟨rfl,rfl⟩;have hG:=grownCap_ge w (0+n) 0 (rnG.t 25);generalize grownCap w (0+n) 0 (rnG.t 25)=G at hG ⊢;have hsz:(#[]++Builtin.zeroCells z.cells (0+n-0)++Builtin.zeroCells z.cells (G-(0+n))).size=G*4:=by
   simp only[Array.size_append,size_zeroCells,hzc,Array.size_empty];omega
  have hsz':([].toArray++Builtin.zeroCells z.cells (0+n-0)++Builtin.zeroCells z.cells (G-(0+n))).size=G*4:=hsz;generalize [].toArray++Builtin.zeroCells z.cells (0+n-0)++Builtin.zeroCells z.cells (G-(0+n))=arr at hsz' ⊢;have hold:∀b,b <w.heap.size→∀x,(w.heap.push x)[b]?=w.heap[b]?:=λb hb x=>by rw[Array.getElem?_push,if_neg (by omega)]
  have hagree:∀b o v,g.m b o=some v→b <w.heap.size:=by
   intro b o v hv;have h2:=hinv.agree b o v hv;rcases AUD b w.heap.size with h'|h'
   ·exact h'
   ·simp[World.cell?,AVA h']at h2
  have hc:Chg (λ_=>False) g w g (w.drew.alloc (.cells arr (rnG.t 25))):=⟨Gh.le.refl g,by show w.heap.size≤(w.heap.push _).size;rw[Array.size_push];omega,λb hb _=>hold b hb _,λ_ _ _ _=>rfl,rfl,rfl⟩;refine⟨_,g,μ,rfl,hinv.newOwn (d:=0) (e:=84) (s:=4) (xs:=[]) hc (λb o v hv=>?_) (.inr ⟨w.heap.size,G,arr,λ_=> .bool false,rfl,by omega,by show (w.heap.push _)[w.heap.size]?=_;rw[Array.getElem?_push,if_pos rfl];rfl,by simp,hsz',by simp,by simp,λo _=>?_⟩) ?_,hc.mono λ_ h=>h.elim,ATu _⟩
  ·have h1:=hinv.agree b o v hv;have h2:=hold b (hagree b o v hv) (.cells arr (rnG.t 25));rw[World.cell?_of_block (a:=⟨b,o,none⟩) h2];exact h1
  ·cases h4:g.m w.heap.size o with
   |none=>rfl
   |some v=>have:=hagree _ _ _ h4;omega
  ·intro b hb;simp only[AW]at hb;split at hb
   ·cases hb
   ·simp only[ATm]at hb;rw[←hb];exact ATs _
def XA:List GI:=[⟨none,.mv 2 (.c (.own 84 4 []))⟩]
def W9:List GI:=[⟨none,.mv 3 (.c (.v (.int .i64 0)))⟩]
def W8:List GI:=[⟨none,.mv 9 (.t 0 false)⟩,
 ⟨none,.p 10 (.alen (.t 9 false))⟩,
 ⟨none,.mv 11 (.c (.v (.int .i64 0)))⟩]
def W7:List GI:=[⟨none,.p 12 (.bin .lss (.t 11 false) (.t 10 false))⟩]
def W6:List GI:=[⟨none,.p 13 (.iaddr (.t 9 false) (.t 11 false) 1)⟩,
 ⟨none,.p 14 (.load (.t 13 false) 1 false)⟩,
 ⟨none,.mv 5 (.t 14 true)⟩]
def W5:List GI:=[⟨none,.mv 15 (.t 3 false)⟩,
 ⟨none,.mv 16 (.t 5 true)⟩,
 ⟨none,.p 17 (.alen (.t 16 false))⟩,
 ⟨none,.p 18 (.bin .add (.t 15 false) (.t 17 false))⟩,
 ⟨none,.mv 3 (.t 18 false)⟩]
def W4:List GI:=[⟨none,.mv 19 (.t 3 false)⟩,
 ⟨none,.p 20 (.bin .lss (.t 19 false) (.c (.v (.int .i64 0))))⟩]
def W3:List GI:=[⟨none,.p 22 (.bin .add (.t 11 false) (.c (.v (.int .i64 1))))⟩,
 ⟨none,.mv 11 (.t 22 false)⟩]
def XC:AC:=(.seq (.reg W7 [0,3,9,10,11,12]) (.seq (.cond (.t 12 false) .skip (.exit 0)) (.seq (.block 1 (.seq (.reg W6 [0,3,5,9,10,11]) (.seq (.reg W5 [0,3,9,10,11]) (.seq (.reg W4 [0,3,9,10,11,20]) (.cond (.t 20 false) .never .skip))))) (.reg W3 [0,3,9,10,11]))))
def W2:List GI:=[⟨none,.mv 23 (.t 3 false)⟩,
 ⟨none,.callN (some 24) (.c (.v (.func 245 []))) [(.c (.nil 84 4)),(.t 23 false)]⟩,
 ⟨none,.mv 6 (.t 24 true)⟩]
def S5:List GI:=[⟨none,.mv 25 (.t 0 true)⟩,
 ⟨none,.p 26 (.alen (.t 25 false))⟩,
 ⟨none,.mv 27 (.c (.v (.int .i64 0)))⟩]
def S4:List GI:=[⟨none,.p 28 (.bin .lss (.t 27 false) (.t 26 false))⟩]
def S3:List GI:=[⟨none,.p 29 (.iaddr (.t 25 false) (.t 27 false) 1)⟩,
 ⟨none,.p 30 (.load (.t 29 false) 1 false)⟩,
 ⟨none,.mv 8 (.t 30 true)⟩]
def S2:List GI:=[⟨none,.mv 31 (.t 6 true)⟩,
 ⟨none,.mv 32 (.t 8 true)⟩,
 ⟨none,.app 33 (.t 31 true) (.t 32 false) 84 4 64⟩,
 ⟨none,.mv 6 (.t 33 true)⟩]
def S1:List GI:=[⟨none,.p 34 (.bin .add (.t 27 false) (.c (.v (.int .i64 1))))⟩,
 ⟨none,.mv 27 (.t 34 false)⟩]
def XB:AC:=(.seq (.reg S4 [6,25,26,27,28]) (.seq (.cond (.t 28 false) .skip (.exit 2)) (.seq (.block 3 (.seq (.reg S3 [6,8,25,26,27]) (.reg S2 [6,25,26,27]))) (.reg S1 [6,25,26,27]))))
def S0:List GI:=[⟨none,.mv 35 (.t 6 true)⟩,
 ⟨none,.mv 2 (.t 35 true)⟩]
def AKO:AC:=(.seq (.reg XA [0]) (.seq (.reg W9 [0,3]) (.seq (.seq (.reg W8 [0,3,9,10,11]) (.block 0 (.loop XC))) (.seq (.reg W2 [0,6]) (.seq (.seq (.reg S5 [6,25,26,27]) (.block 2 (.loop XB))) (.seq (.reg S0 [2]) .ret))))))
def wZ:List AR:=[.t 2]
theorem AQ3:DT Tryz.prog GLx 140 1 AKO wZ=true:=by kernel_rfl
theorem AQq (L:List (List F)) (hL:L.length≤2^20) (hn:L.flatten.length≤2^30):PX 140 [.list (L.map λl=> .list (l.map F.V))] [.list (L.flatten.map F.V)]:=by
 refine AK AQ3 rfl ?_;have hh:∀l:List F,CT 4 (l.map F.V)=true:=by
  intro l;cases l with
  |nil=>rfl
  |cons x xs=>obtain⟨op,n,ins,kids⟩:=x;simp[F.V_eq,V.cells]
 have q:=APx L.flatten.length hn [];obtain⟨U,hU⟩:∃U:Nat→List F,∀k,U k=(L.take k).flatten:=⟨_,λ_=>rfl⟩;have hU0:U 0=[]:=by rw[hU];rfl
 have hUn:U L.length=L.flatten:=by rw[hU,AUT]
 have hUs:∀k l,L[k]?=some l→U (k+1)=U k++l:=by
  intro k l h;rw[hU,hU,AUE,h];simp
 have hUl:∀k,(U k).length≤L.flatten.length:=by
  intro k;rw[hU];conv=>rhs;rw[←AUe k L,List.flatten_append,ATr]
  omega
 rw[←hUn]at q hUl ⊢;rw[←hUn]at hn;simp only[AKO,AB,AA,AF,XA,W9,W8,AY];simp;refine Ac L.length (λk=>⟨[(0,.v (.list (L.map λl=> .list (l.map F.V)))),(3,.v (.int .i64 (U k).length)),(9,.v (.list (L.map λl=> .list (l.map F.V)))),(10,.v (.int .i64 L.length)),(11,.v (.int .i64 k))],[]⟩) (by simp[hU0]) ?_;intro k hk;simp only[XC,AB,AA,AF,AE,W7];simp;by_cases h1:k <L.length
 ·obtain⟨l,hl⟩:∃l,L[k]?=some l:=⟨_,ATo h1⟩;have w1:IntKind.i64.wrap ((k:Int)+1)=k+1:=AJ;have hle:=hUl (k+1);rw[hUs k l hl,ATr]at hle;rw[hUs k l hl,ATr];generalize (U k).length=s at*;have w2:IntKind.i64.wrap ((s:Int)+l.length)=s+l.length:=AJ;have w3:¬((s:Int)+l.length <0):=by omega
  rw[if_pos (by omega),AD];simp only[AA,W6,W5,W4];have hl':L[k]'h1=l:=by have:=ATo h1;rw[hl]at this;exact(AVQ this).symm
  simp[hl,hl',w2,w3,AD,W3,w1,h1]
 ·have hk2:k=L.length:=by omega
  subst hk2;rw[if_neg (by omega),AM];simp only[AA,W2];simp;refine⟨_,_,q,?_⟩;simp[S5];refine Ac L.length (λk=>⟨[(6,.own 84 4 ((U k).map F.V)),(25,.v (.list (L.map λl=> .list (l.map F.V)))),(26,.v (.int .i64 L.length)),(27,.v (.int .i64 k))],[]⟩) (by simp[hU0]) ?_;intro k hk;simp only[XB,AB,AA,AF,AE,S4];simp;by_cases h1:k <L.length
  ·obtain⟨l,hl⟩:∃l,L[k]?=some l:=⟨_,ATo h1⟩;have w1:IntKind.i64.wrap ((k:Int)+1)=k+1:=AJ;have hle:=hUl (k+1);rw[hUs k l hl,ATr]at hle;rw[hUs k l hl,AUN];generalize U k=s at*;have hroom:Ah (s.length+l.length) 64=true:=by simp[Ah];omega
   rw[if_pos (by omega),AD];simp only[AA,S3,S2];have hl':L[k]'h1=l:=by have:=ATo h1;rw[hl]at this;exact(AVQ this).symm
   simp[hl,hl',hh,hroom,S1,w1,h1]
  ·have hk3:k=L.length:=by omega
   subst hk3;rw[if_neg (by omega),AM];simp[AB,AA,S0,AG,wZ]
section
variable {P:Program} {GL:AV}
def ve (clos:List (List Nat)) (n:Nat) (rem:List Nat):Prop:=∀j <n,j∉rem→∀i∈(clos[j]?).getD [],i∉rem
theorem SX {clos:List (List Nat)} {rem:List Nat} {i:Nat} (h:rdy clos rem i=true):i∈rem∧∀j∈(clos[i]?).getD [],j∉rem:=by
 simp only[rdy,ATn,List.contains_iff_mem,AT4,AUf,←Bool.not_eq_true]at h;exact⟨h.1,λj hj=>by simpa using h.2 j hj⟩
theorem sq {is:List GI} {clos:List (List Nat)} {n:Nat} {K:St→Prop} (I:List Nat→St→Prop)
  (hstep:∀rem i s,i∈rem→(∀j∈(clos[i]?).getD [],j∉rem)→(∀j <n,j∉rem→i∉(clos[j]?).getD [])→I rem s→∃s1,BC P GL (is.getD i default) s s1∧I (rem.erase i) s1)
  (hfin:∀s,I [] s→K s):∀(t:AT) (rem:List Nat) (s:St),rem.Nodup→ve clos n rem→t.chk is clos rem=true→I rem s→t.ok P GL is K s:=by
 have down:∀rem i,rem.Nodup→ve clos n rem→i∈rem→(∀j∈(clos[i]?).getD [],j∉rem)→ve clos n (rem.erase i):=by
  intro rem i hnd hd hi hdep j hj hjr k hk hkr;have hk2:k∈rem:=AVJ hkr;by_cases hji:j=i
  ·subst hji;exact hdep k hk hk2
  ·exact hd j hj (λhm=>hjr ((AV9 hji).2 hm)) k hk hk2
 intro t;induction t with
 |done=>
  intro rem s _ _ hc hi;simp only[AT.chk,List.isEmpty_iff]at hc;subst hc;exact hfin s hi
 |take i t ih=>
  intro rem s hnd hd hc hi;simp only[AT.chk,ATn]at hc;obtain⟨h1,h2⟩:=SX hc.1.1.1;obtain⟨s1,g1,g2⟩:=hstep rem i s h1 h2 (λj hj hjr hij=>hd j hj hjr i hij h1) hi;exact⟨s1,g1,ih _ _ (hnd.erase i) (down rem i hnd hd h1 h2) hc.2 g2⟩
 |pick c ih=>
  intro rem s hnd hd hc hi;simp only[AT.chk,ATn]at hc;exact ih rem s hnd hd hc.2 hi
 |alt i t r iht ihr=>
  intro rem s hnd hd hc hi;simp only[AT.chk,ATn]at hc;obtain⟨h1,h2⟩:=SX hc.1.1.1;obtain⟨s1,g1,g2⟩:=hstep rem i s h1 h2 (λj hj hjr hij=>hd j hj hjr i hij h1) hi;exact⟨⟨s1,g1,iht _ _ (hnd.erase i) (down rem i hnd hd h1 h2) hc.1.2 g2⟩,ihr rem s hnd hd hc.2 hi⟩
 |none=>intro rem s _ _ _ _;trivial
def did (d:Nat→Bool) (i:Nat):Nat→Bool:=λj=>decide (j=i)||d j
theorem IE {is:List GI} {clos:List (List Nat)} {n:Nat} {K:St→Prop} (I:(Nat→Bool)→St→Prop) {t:AT} (ht:t.chk is clos (List.range n)=true)
  (hstep:∀d i s,i <n→d i=false→(∀j∈(clos[i]?).getD [],d j=true)→(∀j <n,i∈(clos[j]?).getD []→d j=false)→I d s→∃s1,BC P GL (is.getD i default) s s1∧I (did d i) s1)
  (hfin:∀d s,(∀j <n,d j=true)→I d s→K s) {s:St} (h0:I (λj=>decide (n≤j)) s):t.ok P GL is K s:=by
 refine sq (clos:=clos) (n:=n) (λrem s=>rem.Nodup∧(∀i∈rem,i <n)∧I (λj=>decide (j∉rem)) s) ?_ ?_ t (List.range n) s AWB ?_ ht ⟨AWB,λi hi=>AUC.1 hi,?_⟩
 ·rintro rem i s hi hdep hup ⟨hnd,hlt,hI⟩;obtain⟨s1,g1,g2⟩:=hstep (λj=>decide (j∉rem)) i s (hlt i hi) (by simpa using hi) (λj hj=>by simpa using hdep j hj) (λj hj hij=>by
   have:j∈rem:=Classical.byContradiction λh=>hup j hj h hij;simpa using this) hI
  refine⟨s1,g1,hnd.erase i,λj hj=>hlt j (AVJ hj),?_⟩;have e:(λj=>decide (j∉rem.erase i))=did (λj=>decide (j∉rem)) i:=by
   funext j
   simp only[did,hnd.mem_erase_iff];by_cases h1:j=i<;>simp[h1]
  rw[e];exact g2
 ·rintro s ⟨_,_,hI⟩;exact hfin _ s (λj _=>by simp) hI
 ·intro j hj hjr i hi;exact absurd (AUC.2 hj) hjr
 ·have e:(λj=>decide (j∉List.range n))=λj=>decide (n≤j):=by
   funext j;simp
  rw[e];exact h0
def EnvD (ns cs:List (Option Nat)) (bn:List Nat) (vs bv:Nat→D) (d:Nat→Bool) (e:Env):Prop:=
 (∀j k:Nat,ns[j]?=some (some k)→d j=true→(∀c:Nat,cs[j]?=some (some c)→d c=false)→AH e k=vs j)∧∀k∈bn,AH e k=bv k
def okN (ns:List (Option Nat)) (bn:List Nat):Bool:=
 (List.range ns.length).all λj=>match ns[j]? with
  |some (some k)=> !bn.contains k&&(List.range ns.length).all λi=>i==j|| !(ns[i]?==some (some k))
  |_=>true
theorem JV {ns:List (Option Nat)} {bn:List Nat} (h:okN ns bn=true) {j k:Nat} (hj:ns[j]?=some (some k)):k∉bn∧∀i,ns[i]?=some (some k)→i=j:=by
 have hjl:j <ns.length:=(ATp.1 hj).1;have:=AT4.1 h j (AUC.2 hjl);rw[hj]at this;simp only[ATn,AUf,AT4,AUw,beq_iff_eq]at this;refine⟨λhm=>?_,λi hi=>?_⟩
 ·have h1:=this.1;simp at h1;exact h1 hm
 ·have hil:i <ns.length:=(ATp.1 hi).1;rcases this.2 i (AUC.2 hil)with h2|h2
  ·exact h2
  ·rw[hi]at h2;simp at h2
theorem EnvD.step {ns cs:List (Option Nat)} {bn:List Nat} {vs bv:Nat→D} {d:Nat→Bool} {e e1:Env} (hE:EnvD ns cs bn vs bv d e) (hok:okN ns bn=true) (i:Nat)
  (hnew:∀k:Nat,ns[i]?=some (some k)→AH e1 k=vs i) (hold:∀k:Nat,ns[i]?≠some (some k)→(∀j:Nat,cs[j]?=some (some i)→ns[j]?≠some (some k))→AH e1 k=AH e k):EnvD ns cs bn vs bv (did d i) e1:=by
 refine⟨λj k hj hd hc=>?_,λk hk=>?_⟩
 ·by_cases hji:j=i
  ·subst hji;exact hnew k hj
  ·have hdj:d j=true:=by simpa[did,hji]using hd
   rw[hold k (λhi=>hji ((JV hok hi).2 j hj)) (λj' hj' hk'=>?_)]
   ·refine hE.1 j k hj hdj λc hcc=>?_;have:=hc c hcc;simp only[did,Bool.or_eq_false_iff]at this;exact this.2
   ·have hjj:j=j':=(JV hok hk').2 j hj;subst hjj;have:=hc i hj';simp[did]at this
 ·rw[hold k (λhi=>(JV hok hi).1 hk) (λj' _ hk'=>(JV hok hk').1 hk)];exact hE.2 k hk
theorem EnvD.push {ns cs:List (Option Nat)} {bn:List Nat} {vs bv:Nat→D} {d:Nat→Bool} {e:Env} (hE:EnvD ns cs bn vs bv d e) (hok:okN ns bn=true) (i k:Nat) {v:D} (hi:ns[i]?=some (some k)) (hv:vs i=v):
  EnvD ns cs bn vs bv (did d i) ((k,v)::e):=by
 refine hE.step hok i (λk' hk'=>?_) (λk' hk' _=>?_)
 ·rw[hi]at hk';simp only[ATm]at hk';subst hk';show (if k=k then v else AH e k)=vs i;rw[if_pos rfl,hv]
 ·show (if k=k' then v else AH e k')=AH e k';rw[if_neg (λh=>hk' (by rw[hi,h]))]
theorem EnvD.pushC {ns cs:List (Option Nat)} {bn:List Nat} {vs bv:Nat→D} {d:Nat→Bool} {e:Env} (hE:EnvD ns cs bn vs bv d e) (hok:okN ns bn=true) (i k j m:Nat) {v:D} (hi:ns[i]?=some (some k)) (hv:vs i=v) (hj:cs[j]?=some (some i)) (hm:ns[j]?=some (some m)):
  EnvD ns cs bn vs bv (did d i) ((k,v)::(m,.any)::e):=by
 refine hE.step hok i (λk' hk'=>?_) (λk' hk' hc=>?_)
 ·rw[hi]at hk';simp only[ATm]at hk';subst hk';show (if k=k then v else _)=vs i;rw[if_pos rfl,hv]
 ·show (if k=k' then v else if m=k' then .any else AH e k')=AH e k';rw[if_neg (λh=>hk' (by rw[hi,h])),if_neg (λh=>hc j hj (by rw[hm,h]))]
theorem EnvD.last {ns cs:List (Option Nat)} {bn:List Nat} {vs bv:Nat→D} {d:Nat→Bool} {e:Env} (hE:EnvD ns cs bn vs bv d e) (hok:okN ns bn=true) (i j m:Nat) (hi:ns[i]?=some none) (hj:cs[j]?=some (some i)) (hm:ns[j]?=some (some m)):
  EnvD ns cs bn vs bv (did d i) ((m,.any)::e):=by
 refine hE.step hok i (λk' hk'=>?_) (λk' hk' hc=>?_)
 ·rw[hi]at hk';simp at hk'
 ·show (if m=k' then .any else AH e k')=AH e k';rw[if_neg (λh=>hc j hj (by rw[hm,h]))]
theorem BA {is:List GI} {i k:Nat} {pi:PI} {v:D} {se:Env} {sh:List Row} (hx:is.getD i default=⟨none,.p k pi⟩) (hv:pi.val se sh=some v):BC P GL (is.getD i default) ⟨se,sh⟩ ⟨(k,v)::se,sh⟩:=by
 rw[hx];refine .inl ?_;show (pi.val se sh).map (λx=>(⟨(k,x)::se,sh⟩:St))=_;rw[hv];rfl
theorem CB {is:List GI} {i:Nat} {ai:AI} {s s1:St} (hx:is.getD i default=⟨none,ai⟩) (hv:ai.step s=some s1):BC P GL (is.getD i default) s s1:=by
 rw[hx];exact .inl hv
theorem CD {is:List GI} {i k f:Nat} {args:List Opd} {r:D} {se:Env} {sh h':List Row} (hx:is.getD i default=⟨none,.callF (some k) (.c (.v (.func f []))) args⟩) (hF:FSp P GL f (Ar se args) sh [r] h'):
  BC P GL (is.getD i default) ⟨se,sh⟩ ⟨(k,r)::se,h'⟩:=by
 rw[hx];exact .inr (.inr (.inl ⟨some k,_,args,[r],h',.inl rfl,⟨f,[],rfl,by simpa using hF⟩,rfl⟩))
end
section
variable {P:Program} {GL:AV}
theorem su {is:List GI} {clos:List (List Nat)} {n:Nat} {K:St→Prop} (I:List Nat→St→Prop)
  (hstep:∀rem i s,rem.Nodup→(∀j∈rem,j <n)→i∈rem→(∀j∈(clos[i]?).getD [],j∉rem)→(∀j <n,j∉rem→i∉(clos[j]?).getD [])→I rem s→DU P GL (is.getD i default) (λs1=>I (rem.erase i) s1) s)
  (hfin:∀s,I [] s→K s):∀(k:Nat) (rem:List Nat) (s:St),rem.length=k→rem.Nodup→(∀j∈rem,j <n)→ve clos n rem→I rem s→K5 P GL is clos K k rem s:=by
 intro k;induction k with
 |zero=>
  intro rem s hk _ _ _ hi;have:rem=[]:=AUQ hk;subst this;exact hfin s hi
 |succ k ih=>
  intro rem s hk hnd hlt hd hi i him hdep;refine It (λs1 h1=>ih (rem.erase i) s1 ?_ (hnd.erase i) (λj hj=>hlt j (AVJ hj)) ?_ h1) (hstep rem i s hnd hlt him hdep (λj hj hjr hij=>hd j hj hjr i hij him) hi)
  ·rw[AWA him];omega
  ·intro j hj hjr k2 hk2 hkr;have hk3:k2∈rem:=AVJ hkr;by_cases hji:j=i
   ·subst hji;exact hdep k2 hk2 hk3
   ·exact hd j hj (λhm=>hjr ((AV9 hji).2 hm)) k2 hk2 hk3
theorem sw {is:List GI} {clos:List (List Nat)} {n:Nat} {K:St→Prop} (I:(Nat→Bool)→St→Prop)
  (hstep:∀d i s,i <n→d i=false→(∀j∈(clos[i]?).getD [],d j=true)→(∀j <n,i∈(clos[j]?).getD []→d j=false)→I d s→DU P GL (is.getD i default) (λs1=>I (did d i) s1) s)
  (hfin:∀d s,(∀j <n,d j=true)→I d s→K s) {s:St} (h0:I (λj=>decide (n≤j)) s):K5 P GL is clos K n (List.range n) s:=by
 refine su (clos:=clos) (n:=n) (λrem s=>I (λj=>decide (j∉rem)) s) ?_ ?_ n (List.range n) s (by simp) AWB (λj hj=>AUC.1 hj) ?_ ?_
 ·intro rem i s hnd hlt hi hdep hup hI;have e:(λj=>decide (j∉rem.erase i))=did (λj=>decide (j∉rem)) i:=by
   funext j
   simp only[did,hnd.mem_erase_iff];by_cases h1:j=i<;>simp[h1]
  rw[e];exact hstep (λj=>decide (j∉rem)) i s (hlt i hi) (by simpa using hi) (λj hj=>by simpa using hdep j hj) (λj hj hij=>by
   have:j∈rem:=Classical.byContradiction λh=>hup j hj h hij;simpa using this) hI
 ·intro s hI;exact hfin _ s (λj _=>by simp) hI
 ·intro j hj hjr i hi;exact absurd (AUC.2 hj) hjr
 ·have e:(λj=>decide (j∉List.range n))=λj=>decide (n≤j):=by
   funext j;simp
  rw[e];exact h0
end
def Cb (pre:List V) (g:V) (b:Nat) (d:Nat→Bool):D:=
 if d 7 then (if d 6 then .own 84 4 (pre++[g]) else .pend b 84 4 pre) else if d 0 then .v (.list pre) else .own 84 4 pre
structure I64 (H:List Row) (r6 r8:Nat) (pre:List V) (op n:Int) (ins kids:V) (d:Nat→Bool) (s:St):Prop where
 ex:∃b,s.h=H.set r6 (.cells [Cb pre (.agg [.int .i64 op,.int .i64 n,ins,kids]) b d])∧(d 4=true→d 7=false→AH s.e 26=if d 6 then .own 84 4 (pre++[.agg [.int .i64 op,.int .i64 n,ins,kids]]) else .pend b 84 4 pre)∧
  (d 7=true→d 6=false→AH s.e 26= .pptr b 0 pre.length)∧(d 5=true→AH s.e 27= .pptr b 4 pre.length)
 e6:AH s.e 6= .ref r6 0
 e8:AH s.e 8= .ref r8 0
 e23:d 1=true→AH s.e 23= .agg [.v (.int .i64 op),.v (.int .i64 n),.v ins,.v kids]
 e22:d 0=true→d 4=false→AH s.e 22= .own 84 4 pre
 e24:d 2=true→AH s.e 24= .v (.int .i64 pre.length)
 e25:d 3=true→AH s.e 25= .own 84 4 [.agg [.int .i64 0,.int .i64 0,.list [],.list []]]
set_option maxHeartbeats 4000000 in
theorem r64 (H:List Row) (r6 r8:Nat) (hne:r6≠r8) (hl:r6 <H.length) (pre:List V) (hpre:pre.length≤2^20) (op n:Int) (ins kids:V)
  (h6:H[r6]?=some (.cells [.own 84 4 pre])) (h8:H[r8]?=some (.cells [.v (.int .i64 op),.v (.int .i64 n),.v ins,.v kids])) (K:St→Prop)
  (hK:∀e,K ⟨e,H.set r6 (.cells [.own 84 4 (pre++[.agg [.int .i64 op,.int .i64 n,ins,kids]])])⟩) (e:Env) (f6:AH e 6= .ref r6 0) (f8:AH e 8= .ref r8 0):
  K5 Tryz.prog GLx Eu [[],[],[0],[],[0,1,2,3],[0,1,2,3,4],[0,1,2,3,4,5],[0,1,2,3,4]] K 8 (List.range 8) ⟨e,H⟩:=by
 have hroom:Ah (pre.length+1) 64=true:=by simp[Ah];omega
 refine sw (I64 H r6 r8 pre op n ins kids) ?_ ?_ ?_
 ·rintro d i ⟨se,sh⟩ hi hdi hdep hup ⟨⟨b,hh,e26,e26',e27⟩,e6,e8,e23,e22,e24,e25⟩;simp only at hh e26 e26' e27 e6 e8 e23 e22 e24 e25;subst hh;have hg8:∀X,(H.set r6 X)[r8]?=some (.cells [.v (.int .i64 op),.v (.int .i64 n),.v ins,.v kids]):=λX=>by rw[AT5 hne];exact h8
  have hg6:∀X,(H.set r6 X)[r6]?=some X:=λX=>AUJ hl;have hcases:i=0∨i=1∨i=2∨i=3∨i=4∨i=5∨i=6∨i=7:=by omega
  rcases hcases with rfl|rfl|rfl|rfl|rfl|rfl|rfl|rfl
  ·have d4:=hup 4 (by decide) (by simp);have d7:=hup 7 (by decide) (by simp);have d5:=hup 5 (by decide) (by simp);simp[DU,Eu,e6,hg6,Cb,hdi,d7];refine⟨⟨b,?_,?_,?_,?_⟩,?_,?_,?_,?_,?_,?_⟩<;>simp_all [did,Cb]
  ·simp[DU,Eu,e8,hg8];refine⟨⟨b,?_,?_,?_,?_⟩,?_,?_,?_,?_,?_,?_⟩<;>simp_all [did,Cb]
  ·have d0:=hdep 0 (by simp);have d4:=hup 4 (by decide) (by simp);have h22:=e22 d0 d4;simp[DU,Eu,h22];refine⟨⟨b,?_,?_,?_,?_⟩,?_,?_,?_,?_,?_,?_⟩<;>simp_all [did,Cb]
  ·have d4:=hup 4 (by decide) (by simp);simp[DU,Eu];refine⟨⟨b,?_,?_,?_,?_⟩,?_,?_,?_,?_,?_,?_⟩<;>simp_all [did,Cb]
  ·have d0:=hdep 0 (by simp);have d3:=hdep 3 (by simp);have d5:=hup 5 (by decide) (by simp);have d6:=hup 6 (by decide) (by simp);have d7:=hup 7 (by decide) (by simp);have h22:=e22 d0 hdi;have h25:=e25 d3;simp[DU,Eu,h22,h25,EE,hroom];intro b';refine⟨⟨b',?_,?_,?_,?_⟩,?_,?_,?_,?_,?_,?_⟩<;>simp_all [did,Cb]
  ·have d4:=hdep 4 (by simp);have d2:=hdep 2 (by simp);have d6:=hup 6 (by decide) (by simp);have h24:=e24 d2;cases d7:d 7 with
   |true=>
    have h26:=e26' d7 d6;simp[DU,Eu,h24,h26];refine⟨⟨b,?_,?_,?_,?_⟩,?_,?_,?_,?_,?_,?_⟩<;>simp_all [did,Cb]
   |false=>
    have h26:=e26 d4 d7;rw[d6]at h26;simp at h26;simp[DU,Eu,h24,h26];refine⟨⟨b,?_,?_,?_,?_⟩,?_,?_,?_,?_,?_,?_⟩<;>simp_all [did,Cb]
  ·have d4:=hdep 4 (by simp);have d1:=hdep 1 (by simp);have d5:=hdep 5 (by simp);have h23:=e23 d1;have h27:=e27 d5;cases d7:d 7 with
   |true=>
    have h26:=e26' d7 hdi;simp[DU,Eu,h23,h26,h27,e6,hg6,Cb,d7,hdi,D.vs?,D.v?,V.cells];refine⟨⟨b,?_,?_,?_,?_⟩,?_,?_,?_,?_,?_,?_⟩<;>simp_all [did,Cb]
   |false=>
    have h26:=e26 d4 d7;rw[hdi]at h26;simp at h26;simp[DU,Eu,h23,h26,h27,D.vs?,D.v?,V.cells];refine⟨⟨b,?_,?_,?_,?_⟩,?_,?_,?_,?_,?_,?_⟩<;>simp_all [did,Cb]
  ·have d4:=hdep 4 (by simp);have h26:=e26 d4 hdi;cases d6:d 6 with
   |true=>
    rw[d6]at h26;simp at h26;simp[DU,Eu,h26,e6,hg6,Cb,hdi];refine⟨⟨b,?_,?_,?_,?_⟩,?_,?_,?_,?_,?_,?_⟩<;>simp_all [did,Cb]
   |false=>
    rw[d6]at h26;simp at h26;simp[DU,Eu,h26,e6,hg6,Cb,hdi];refine⟨⟨b,?_,?_,?_,?_⟩,?_,?_,?_,?_,?_,?_⟩<;>simp_all [did,Cb]
 ·rintro d ⟨se,sh⟩ hd ⟨⟨b,hh,_⟩,_⟩;simp only at hh;subst hh;have h7:=hd 7 (by decide);have h6':=hd 6 (by decide);simp only[Cb,h7,h6',if_true];exact hK se
 ·refine⟨⟨0,?_,?_,?_,?_⟩,f6,f8,?_,?_,?_,?_⟩<;>simp[Cb]
  obtain⟨hl2,hg⟩:=ATp.1 h6;rw[←hg];exact(AWY hl2).symm
section
variable (h:List Row) (C B:Row) (e0:Env)
def X64 (h:List Row) (C B:Row) (e0:Env) (own:List V) (t:Tag):List Row:=h++[C,.cells [.own 84 4 own],B,Ao Tryz.prog GLx t e0 [21] S7 S6]
set_option maxHeartbeats 4000000 in
theorem y64 (h6:AH e0 6= .ref (h.length+1) 0) (pre:List F) (hpre:pre.length≤2^20) (g:F) (J:List Row):
  YSp Tryz.prog GLx (h.length+3) [.v g.V] (X64 h C B e0 (pre.map F.V) .ready++J) true (X64 h C B e0 ((pre++[g]).map F.V) .ready++(J++[.cells g.cells])):=by
 refine Ci (e0:=e0) (ps:=[21]) (asg:=S7) (body:=S6) (by simp[X64]) rfl ?_;obtain⟨op,n,ins,kids⟩:=g;have hr:=λ(H:List Row) (r8:Nat) (hne:h.length+1≠r8) (hl:h.length+1 <H.length) (hx:H[h.length+1]?=some (.cells [.own 84 4 (pre.map F.V)])) (h8:H[r8]?=some (.cells [.v (.int .i64 op),.v (.int .i64 n),.v (.list (ins.map Ivl.V)),.v (.list (kids.map F.V))])) K hK e f6 f8=>
  r64 H (h.length+1) r8 hne hl (pre.map F.V) (by simpa using hpre) op n (.list (ins.map Ivl.V)) (.list (kids.map F.V)) hx h8 K hK e f6 f8
 simp only[F.cells,F.op,F.n,F.ins,F.kids,F.V_eq,X64,FZ,S7,S6,AA,AF,yS];simp[h6,AO];rw[so];refine hr _ (h.length+(J.length+4)) (by omega) (by simp) (by simp) (by simp) _ ?_ _ rfl rfl;intro e;simp[CH,F.V_eq]
end
theorem AQ9 (H:List Row) (a:F) (a14:Nat) (h14:H[a14]?=some (.cells a.cells)) (bl res:List F) (hb:∀b∈bl,(mkA a b).ok∧BH (mkA a b)=0) (hlen:res.length+bl.length≤64) (d1 d6 d37 d38 d39 d62 d63 d64:D) (J:List Row) (Q:AExit→St→Prop)
  (hQ:∀J' e,AH e 1=d1→AH e 6=d6→AH e 7= .own 84 4 ((res++bl.map (mkA a)).map F.V)→AH e 37=d37→AH e 38=d38→AH e 39=d39→AH e 62=d62→AH e 63=d63→AH e 64=d64→Q (.exit 6) ⟨e,H++J'⟩):
  awp Tryz.prog GLx (.loop Xx) Q ⟨[(1,d1),(6,d6),(7,.own 84 4 (res.map F.V)),(14,.ref a14 0),(37,d37),(38,d38),(39,d39),(62,d62),(63,d63),(64,d64),(68,.v (.list (bl.map F.V))),(69,.v (.int .i64 bl.length)),(70,.v (.int .i64 (0:Nat)))],H++J⟩:=by
 refine Ae bl.length (λk s=>∃J',s=⟨[(1,d1),(6,d6),(7,.own 84 4 ((res++(bl.take k).map (mkA a)).map F.V)),(14,.ref a14 0),(37,d37),(38,d38),(39,d39),(62,d62),(63,d63),(64,d64),(68,.v (.list (bl.map F.V))),(69,.v (.int .i64 bl.length)),(70,.v (.int .i64 k))],H++J'⟩) ⟨J,by simp⟩ ?_;rintro k s hk ⟨J',rfl⟩;have h14':=λZ=>AS Z h14;simp only[Xx,AB,AA,AF,AE,Xq];by_cases hkl:k <bl.length
 ·obtain⟨b,hbk⟩:∃b,bl[k]?=some b:=⟨_,ATo hkl⟩;obtain⟨hmok,hmz⟩:=hb b (ATq hbk);have w1:IntKind.i64.wrap ((k:Int)+1)=k+1:=AJ;have htk:bl.take (k+1)=bl.take k++[b]:=by rw[AUE,hbk];rfl
  have q1:=AIZ a;have q2:=AIZ b;have q3:=AQq [BR a,BR b] (by simp) (by
   have hsz:(mkA a b).size≤1000:=by
    unfold BH at hmz;split at hmz
    ·cases hmz
    ·omega
   unfold mkA at hsz;rw[F.size_eq]at hsz;have:=F.kids_len (BR a++BR b);simp at this ⊢;simp at hsz;omega)
  have q4:=(p66 (mkA a b) hmok).fsp;rw[hmz]at q4;rw[htk];have hrl:((bl.take k).map (mkA a)).length≤k:=by rw[AT9,AUI];omega
  rw[AUN (f:=mkA a)];generalize (bl.take k).map (mkA a)=R at*;have hroom:Ah (res.length+R.length+1) 64=true:=by simp[Ah];omega
  simp only[mkA]at q4;simp only[ATz,AVM,mkA];have hfl:[BR a,BR b].flatten=BR a++BR b:=by simp
  rw[hfl]at q3;generalize BR a=pa at*;generalize BR b=pb at*;obtain⟨ao,an,ai,ak⟩:=a;obtain⟨bo,bn,bi,bk⟩:=b;simp only[F.V_eq,F.cells,F.op,F.n,F.ins,F.kids]at*;simp at q3 q4 h14';simp;rw[if_pos (by omega),AD];simp only[AA,Xp];simp[hbk,F.V_eq,AO];simp only[Aa,Xo];simp[h14'];refine⟨_,_,⟨rfl,rfl⟩,_,q1,?_⟩;simp;refine⟨_,_,⟨rfl,rfl⟩,_,q2,?_⟩;simp;refine⟨_,_,⟨rfl,rfl⟩,_,q3,?_⟩;simp[AO];simp only[AA,Xn];simp;refine⟨_,_,q4 _,?_⟩;simp[AD,AA,Xm,hroom,Xl,w1,hkl,AO]
 ·have hk2:k=bl.length:=by omega
  subst hk2;simp;rw[AM];refine hQ _ _ ?_ ?_ ?_ ?_ ?_ ?_ ?_ ?_ ?_<;>simp
theorem ARA (H:List Row) (r6:Nat) (al bl res:List F) (h6:H[r6]?=some (.cells [.own 84 4 (bl.map F.V)])) (hb:∀a∈al,∀b∈bl,(mkA a b).ok∧BH (mkA a b)=0) (hlen:res.length+al.length*bl.length≤64) (haln:al.length≤2^20) (d1 d37 d38 d39:D) (J:List Row) (Q:AExit→St→Prop)
  (hQ:∀J' e,AH e 1=d1→AH e 6= .ref r6 0→AH e 7= .own 84 4 ((res++al.flatMap λa=>bl.map (mkA a)).map F.V)→AH e 37=d37→AH e 38=d38→AH e 39=d39→Q (.exit 4) ⟨e,H++J'⟩):
  awp Tryz.prog GLx (.loop Xy) Q ⟨[(1,d1),(6,.ref r6 0),(7,.own 84 4 (res.map F.V)),(37,d37),(38,d38),(39,d39),(62,.v (.list (al.map F.V))),(63,.v (.int .i64 al.length)),(64,.v (.int .i64 (0:Nat)))],H++J⟩:=by
 obtain⟨U,hU⟩:∃U:Nat→List F,∀k,U k=res++(al.take k).flatMap λa=>bl.map (mkA a):=⟨_,λ_=>rfl⟩;have hU0:U 0=res:=by rw[hU];simp
 have hUn:U al.length=res++al.flatMap λa=>bl.map (mkA a):=by rw[hU,AUT]
 have hUs:∀k a,al[k]?=some a→U (k+1)=U k++bl.map (mkA a):=by
  intro k a h;rw[hU,hU,AUE,h];simp
 have hUl:∀k,k≤al.length→(U k).length=res.length+k*bl.length:=by
  intro k hk;have:∀l:List F,(l.flatMap λa=>bl.map (mkA a)).length=l.length*bl.length:=by
   intro l;induction l with
   |nil=>simp
   |cons x l ih=>rw[AT8,ATr,ih,AT9,AUA,AVG];omega
  rw[hU,ATr,this,AUI,AU1 hk]
 rw[←hUn]at hQ;refine Ae al.length (λk s=>∃J',s.h=H++J'∧AH s.e 1=d1∧AH s.e 6= .ref r6 0∧AH s.e 7= .own 84 4 ((U k).map F.V)∧AH s.e 37=d37∧AH s.e 38=d38∧AH s.e 39=d39∧AH s.e 62= .v (.list (al.map F.V))∧AH s.e 63= .v (.int .i64 al.length)∧AH s.e 64= .v (.int .i64 k)) ⟨J,rfl,rfl,rfl,by simp[hU0],rfl,rfl,rfl,rfl,rfl,rfl⟩ ?_;rintro k ⟨se,sh⟩ hk ⟨J',rfl,f1,f6,f7,f37,f38,f39,f62,f63,f64⟩;simp only at f1 f6 f7 f37 f38 f39 f62 f63 f64;have h6':=λZ=>AS Z h6;simp only[Xy,AB,AA,AF,AE,Xt];simp[f1,f6,f7,f37,f38,f39,f62,f63,f64];by_cases hkl:k <al.length
 ·obtain⟨a,hak⟩:∃a,al[k]?=some a:=⟨_,ATo hkl⟩;have w1:IntKind.i64.wrap ((k:Int)+1)=k+1:=AJ;have hrl:=hUl k (by omega);have hm:(k+1)*bl.length≤al.length*bl.length:=AVD _ hkl;rw[AVG]at hm;have hc:=λH2 a14 h14 d6 d62 d63 d64 J Q=>AQ9 H2 a a14 h14 bl (U k) (hb a (ATq hak)) (by rw[hrl];omega) d1 d6 d37 d38 d39 d62 d63 d64 J Q;rw[hUs k a hak];generalize U k=R at*;have hc2:=hc (H++J'++[.cells a.cells]) (H.length+J'.length) (by
   simp) (.ref r6 0) (.v (.list (al.map F.V))) (.v (.int .i64 al.length)) (.v (.int .i64 k)) []
  obtain⟨ao,an,ai,ak⟩:=a;simp only[F.V_eq,F.cells,F.op,F.n,F.ins,F.kids]at*;rw[if_pos (by omega),AD];simp only[AA,Xs];simp[hak,F.V_eq,AO];simp only[AA,Xr];simp[h6'];simp at hc2;refine hc2 _ ?_;intro J2 e g1 g6 g7 g37 g38 g39 g62 g63 g64;simp[AA,Xk,g1,g6,g7,g37,g38,g39,g62,g63,g64,w1,hkl]
 ·have hk2:k=al.length:=by omega
  subst hk2;rw[if_neg (by omega),AM];refine hQ _ _ ?_ ?_ ?_ ?_ ?_ ?_<;>simp[f1,f6,f7,f37,f38,f39]
theorem vz (h:List Row) (C B:Row) (e0:Env) (h6:AH e0 6= .ref (h.length+1) 0):∀(l pre:List F),pre.length+l.length≤2^20→
  RunY Tryz.prog GLx (h.length+3) (l.map F.V) (X64 h C B e0 (pre.map F.V) .ready) true (X64 h C B e0 ((pre++l).map F.V) .ready)
 |[],pre,_=>⟨rfl,by rw[AUh]⟩
 |g::l,pre,hn=>by
  have hn':pre.length+(l.length+1)≤2^20:=hn;refine⟨true,X64 h C B e0 ((pre++[g]).map F.V) .ready,by simp[X64],λJ=>⟨[.cells g.cells],y64 h C B e0 h6 pre (by omega) g J⟩,?_⟩;have:=vz h C B e0 h6 l (pre++[g]) (by rw[ATr];simp;omega);rw[AT1]at this;exact this
theorem AO6 (k:Nat) (acc:List (List F)):Cl false [0] (.int .i64 k) (De 0 (acc.map λl=>V.list (l.map F.V)))=some (if k <acc.length then some k else none):=by
 rw[Gv false];simp
theorem ARB (H:List Row) (r6 mx:Nat) (acc:List (List F)) (hmx:H[mx]?=some (Dl (acc.map λl=>V.list (l.map F.V)))) (refs:List Int) (hrefs:∀r∈refs,0≤r∧r <acc.length) (hrn:refs.length≤8) (bl:List F) (h6:H[r6]?=some (.cells [.own 84 4 (bl.map F.V)]))
  (hb:∀r∈refs,∀a∈(acc[r.toNat]?).getD [],∀b∈bl,(mkA a b).ok∧BH (mkA a b)=0) (U:Nat→List F) (hU:∀k,U k=(refs.take k).flatMap λr=>((acc[r.toNat]?).getD []).flatMap λa=>bl.map (mkA a)) (hlen:∀k,k≤refs.length→(U k).length≤64)
  (haln:∀r∈refs,((acc[r.toNat]?).getD []).length≤64) (hbl:bl.length≤64) (J:List Row) (Q:AExit→St→Prop)
  (hQ:∀J' e,AH e 7= .own 84 4 ((U refs.length).map F.V)→Q (.exit 2) ⟨e,H++J'⟩):
  awp Tryz.prog GLx (.loop Xz) Q ⟨[(1,.mref mx),(6,.ref r6 0),(7,.own 84 4 []),(37,.v (AL .i64 refs)),(38,.v (.int .i64 refs.length)),(39,.v (.int .i64 (0:Nat)))],H++J⟩:=by
 have hU0:U 0=[]:=by rw[hU];simp
 have hUs:∀k r,refs[k]?=some r→U (k+1)=U k++((acc[r.toNat]?).getD []).flatMap λa=>bl.map (mkA a):=by
  intro k r h;rw[hU,hU,AUE,h];simp
 refine Ae refs.length (λk s=>∃J',s.h=H++J'∧AH s.e 1= .mref mx∧AH s.e 6= .ref r6 0∧AH s.e 7= .own 84 4 ((U k).map F.V)∧AH s.e 37= .v (AL .i64 refs)∧AH s.e 38= .v (.int .i64 refs.length)∧AH s.e 39= .v (.int .i64 k)) ⟨J,rfl,rfl,rfl,by simp[hU0],rfl,rfl,rfl⟩ ?_;rintro k ⟨se,sh⟩ hk ⟨J',rfl,f1,f6,f7,f37,f38,f39⟩;simp only at f1 f6 f7 f37 f38 f39;have h6':=λZ=>AS Z h6;have hmx':∀Z,(H++Z)[mx]?=some (.map (De 0 (acc.map λl=>V.list (l.map F.V))) (List.range (acc.map λl=>V.list (l.map F.V)).length) (acc.map λl=>V.list (l.map F.V)).length):=λZ=>AS Z hmx;simp only[Xz,AB,AA,AF,AE,yP];simp[f1,f6,f7,f37,f38,f39,AL];by_cases hkl:k <refs.length
 ·obtain⟨r,hr⟩:∃r,refs[k]?=some r:=⟨_,ATo hkl⟩;have hrm:=ATq hr;have hrr:=hrefs r hrm;have w1:IntKind.i64.wrap ((k:Int)+1)=k+1:=AJ;obtain⟨j,rfl⟩:∃j:Nat,r=j:=⟨r.toNat,by omega⟩;obtain⟨al,hal⟩:∃al,acc[j]?=some al:=⟨_,ATo (by omega)⟩;have hgd:(acc[((j:Int)).toNat]?).getD []=al:=by simp[hal]
  have hls:=hlen (k+1) hkl;have hbb:=hb _ hrm;have haa:=haln _ hrm;rw[hUs k _ hr]at hls ⊢;rw[hgd]at hls hbb haa ⊢;have hf:Cl false [0] (.int .i64 j) (De 0 (acc.map λl=>V.list (l.map F.V)))=some (some j):=by rw[AO6,if_pos (by omega)]
  have hgv:(De 0 (acc.map λl=>V.list (l.map F.V)))[j]?=some (.int .i64 j,.list (al.map F.V)):=by
   have:=F4 (acc.map λl=>V.list (l.map F.V)) 0 j (.list (al.map F.V)) (by simp[hal]);simpa using this
  have hfl:((al.flatMap λa=>bl.map (mkA a))).length=al.length*bl.length:=by
   clear hls hbb haa hal hgd hgv;induction al with
   |nil=>simp
   |cons x l ih=>rw[AT8,ATr,ih,AT9,AUA,AVG];omega
  rw[ATr,hfl]at hls;have hc:=λd37 d38 d39 J Q=>ARA H r6 al bl (U k) h6 hbb hls (by omega) (.mref mx) d37 d38 d39 J Q;generalize U k=R at*;rw[if_pos (by omega),AD];simp only[AA,yO];simp[hr];simp only[AA,Xw];simp[hmx',Be,V.eqL,V.eq1,hf,hgv,Dv];have hmb:al.length*bl.length≤64:=by omega
  have w2:IntKind.i64.wrap ((al.length:Int)*bl.length)=((al.length*bl.length:Nat):Int):=by
   rw[←Int.natCast_mul];exact AJ
  have w3:IntKind.i64.wrap ((R.length:Int)+((al.length*bl.length:Nat):Int))=((R.length+al.length*bl.length:Nat):Int):=by
   rw[←AUs];exact AJ
  have hgt:¬(64 <R.length+al.length*bl.length):=by omega
  simp only[AA,Xv];generalize al.length*bl.length=m at*;simp[h6',w2,w3];rw[if_neg (by omega),AD];simp only[AA,Xu];simp;simp at hc;refine hc _ _ _ _ _ ?_;intro J2 e g1 g6 g7 g37 g38 g39;simp[AA,Xj,g1,g6,g7,g37,g38,g39,w1,hkl]
 ·have hk2:k=refs.length:=by omega
  subst hk2;rw[if_neg (by omega),AM];exact hQ _ _ (by simp[f7])
theorem p64 (h:List Row) (hl:Low h) (c:Clm) (hok:c.body.ok) (htl:c.body.tops.length≤64) (mx:Nat) (acc:List (List F)) (hmx:h[mx]?=some (Dl (acc.map λl=>V.list (l.map F.V)))) (hrefs:∀r∈c.refs,0≤r∧r <acc.length) (hrn:c.refs.length≤8)
  (hb:∀r∈c.refs,∀a∈(acc[r.toNat]?).getD [],∀b∈c.body.tops,(mkA a b).ok∧BH (mkA a b)=0) (hlen:∀k,k≤c.refs.length→((c.refs.take k).flatMap λr=>((acc[r.toNat]?).getD []).flatMap λa=>c.body.tops.map (mkA a)).length≤64)
  (haln:∀r∈c.refs,((acc[r.toNat]?).getD []).length≤64):
  FX 64 [.v c.V,.mref mx] h [if c.refs=[] then .v (.list ((Dp acc c).map F.V)) else .own 84 4 ((Dp acc c).map F.V),.v (.bool true)] h:=by
 have hd:∀d∈[if c.refs=[] then D.v (.list ((Dp acc c).map F.V)) else .own 84 4 ((Dp acc c).map F.V),.v (.bool true)],D.lt h.length d=true:=by
  intro d hd;simp only[ATt,AT2,or_false]at hd;rcases hd with rfl|rfl
  ·split<;>rfl
  ·rfl
 refine As k64 rfl (ATs _) hl hd ?_;obtain⟨U,hU⟩:∃U:Nat→List F,∀k,U k=(c.refs.take k).flatMap λr=>((acc[r.toNat]?).getD []).flatMap λa=>c.body.tops.map (mkA a):=⟨_,λ_=>rfl⟩;have hUn:U c.refs.length=Dp acc c∨c.refs=[]:=by
  by_cases h0:c.refs=[]
  ·exact .inr h0
  ·left;rw[hU,AUT];unfold Dp;rw[if_neg h0]
 have hlo:=λ(H:List Row) r6 hm6 h6 J Q=>ARB H r6 mx acc hm6 c.refs hrefs hrn c.body.tops h6 hb U hU (λk hk=>by rw[hU];exact hlen k hk) haln htl J Q;have q139:=λZ=>AQr c.body (h++Z);obtain⟨refs,body⟩:=c;simp only at*;generalize hT:body.tops=T at*;have hmx':=λZ=>AS Z hmx;simp only[c64,AB,AA,AF,AE,yV,AQ];simp[Clm.V];simp only[AA,yU];simp;simp only[AA,yT];simp;have hbv:body.V= .agg [.int .i64 body.op,.int .i64 body.n,.list (body.ins.map Ivl.V),.list (body.kids.map F.V)]:=by obtain⟨a,b,c,d⟩:=body;exact F.V_eq ..
 have q:=q139 [.cells [.v (AL .i64 refs),.v (.int .i64 body.op),.v (.int .i64 body.n),.v (.list (body.ins.map Ivl.V)),.v (.list (body.kids.map F.V))],.cells [.own 84 4 []]];rw[hbv]at q;refine⟨_,_,q,?_⟩;simp;obtain⟨e0,he0⟩:∃e0,e0=cpE [(1,D.mref mx),(2,.ref h.length 0),(6,.ref (h.length+1) 0),(7,.own 84 4 []),(20,.func 242 [.ref (h.length+2) 0])]:=⟨_,rfl⟩;obtain⟨C,hC⟩:∃C,C=Row.cells [.v (AL .i64 refs),.v (.int .i64 body.op),.v (.int .i64 body.n),.v (.list (body.ins.map Ivl.V)),.v (.list (body.kids.map F.V))]:=⟨_,rfl⟩;have hrun:=vz h C (.cells body.cells) e0 (by rw[he0];simp[cpE]) T [] (by simp;omega);rw[←hT]at hrun;obtain⟨JJ,hp⟩:=AP0 body hok (h.length+3) (h.length+2) _ true _ hrun (by simp[X64]);refine D8 (h.length+3) (by simp) 242 [.ref (h.length+2) 0] [] _ _ .ready rfl ?_ hp ?_ ?_
 ·rw[hC,he0];simp[X64]
 ·rw[he0];simp[X64]
 ·have hloop:=λJ Q=>hlo (h++[C,.cells [.own 84 4 (T.map F.V)],.cells body.cells,.dead]) (h.length+1) (AS _ hmx) (by simp) J Q;rw[hT];simp[Bo,X64];simp at hloop;rw[hC]at hloop ⊢;by_cases hr0:refs=[]
  ·subst hr0;simp only[AA,Xh];simp[AL];simp only[Aa,yR];simp[AG,ADs,Dp,hT,htl]
   try omega
  ·have hrp:¬(refs.length:Int)=0:=by cases refs with|nil=>exact absurd rfl hr0|cons=>simp;omega
   have hUn':=hUn.resolve_right hr0;simp only[AA,Xh];simp[AL,hr0,AD];simp only[AA,yQ];simp;simp[AL]at hloop;refine hloop _ _ ?_;intro J' e g7;rw[hUn']at g7;simp[AA,Xi,g7,AG,ADs]
structure FP (s d:Nat) (f:F):Prop where
 nd:∀g∈f.nodes,g.ok1∧Ax g=true∧okC 6 g=true
 sz:f.size≤s
 dp:f.depth≤d
theorem FP.mono {s d s' d':Nat} {f:F} (h:FP s d f) (hs:s≤s') (hd:d≤d'):FP s' d' f:=⟨h.nd,AUV h.sz hs,AUV h.dp hd⟩
theorem FP.ok {s d:Nat} {f:F} (h:FP s d f) (hs:s≤96) (hd:d≤8):f.ok∧BH f=0∧f.nodes.all (okC 6)=true:=by
 have h1:=h.sz;have h2:=h.dp;refine⟨⟨λg hg=>(h.nd g hg).1,by omega⟩,?_,AT4.2 λg hg=>(h.nd g hg).2.2⟩;unfold BH;rw[if_neg (by omega),if_pos (AT4.2 λg hg=>(h.nd g hg).2.1)]
theorem KI {d:Nat}:∀ {l:List F},(∀k∈l,k.depth≤d)→F.depths l≤d
 |[],_=>by simp[F.depths]
 |k::ks,h=>by
  have h1:=h k (by simp);have h2:=KI (l:=ks) λx hx=>h x (by simp[hx]);simp only[F.depths];omega
theorem FP.node {op:Int} (ho:op=4∨op=5) {kids:List F} {s d n:Nat} (hk:∀k∈kids,FP n d k) (hs:(kids.map F.size).sum≤s):FP (1+s) (d+1) (.mk op 0 [] kids):=by
 refine⟨λg hg=>?_,by rw[F.size_eq];omega,?_⟩
 ·rw[F.nodes_eq]at hg;rcases ATt.1 hg with rfl|hg
  ·refine⟨⟨?_,by simp[F.n,i64],by simp[F.ins],by simp[F.ins]⟩,?_,?_⟩
   ·rcases ho with rfl|rfl<;>simp[F.op,i64]
   ·rcases ho with rfl|rfl<;>simp[Ax,F.op,F.n,F.ins]
   ·rcases ho with rfl|rfl<;>simp[okC,F.op]
  ·obtain⟨k,hk1,hk2⟩:=AUb.1 hg;exact(hk k hk1).nd g hk2
 ·have:=KI (l:=kids) λk hkk=>(hk k hkk).dp;simp only[F.depth];omega
structure CP (c:Clm):Prop where
 lr:c.refs.length≤2
 body:FP 7 3 c.body
 nt:c.body.tops.length≤2
 tops:∀p∈c.body.tops,FP 3 2 p
def sB:Nat→Nat
 |0=>7
 |k+1=>9+2*sB k
theorem SS {a b:Nat} (h:a≤b):sB a≤sB b:=by
 induction h with
 |refl=>exact ATs _
 |step _ ih=>simp only[sB];omega
theorem V9 {α:Type} (f:α→Nat) (n:Nat):∀l:List α,(∀x∈l,f x≤n)→(l.map f).sum≤n*l.length
 |[],_=>by simp
 |x::l,h=>by
  have h1:=h x (by simp);have h2:=V9 f n l λy hy=>h y (by simp[hy]);simp only[ATz,AUz,AUA,AVi];omega
theorem WS (T:List Clm) (hc:∀c∈T,CP c) (hlow:∀(k:Nat) (c:Clm),T[k]?=some c→∀r∈c.refs,0≤r∧r <(k:Int)):∀(k:Nat) (c:Clm),T[k]?=some c→FP (sB k) (3+2*k) (DA (A7 (T.take k)) c):=by
 intro k;induction k using Nat.strongRecOn with
 |_ k ih=>
  intro c hk;have hcp:=hc c (ATq hk);unfold DA;by_cases h0:c.refs=[]
  ·rw[if_pos h0];exact hcp.body.mono (SS (AUR k)) (by omega)
  ·rw[if_neg h0];have hkl:k <T.length:=(ATp.1 hk).1;have hk0:0 <k:=by
    obtain⟨r,hr⟩:=List.exists_mem_of_ne_nil _ h0;have:=hlow k c hk r hr;omega
   obtain⟨j,rfl⟩:∃j,k=j+1:=⟨k-1,by omega⟩;have hm:∀r∈c.refs,FP (sB j) (3+2*j) (((A7 (T.take (j+1)))[r.toNat]?).getD c.body):=by
    intro r hr;have hrl:=hlow _ c hk r hr;have hrk:r.toNat <j+1:=by omega
    obtain⟨c',hc'⟩:∃c',T[r.toNat]?=some c':=⟨_,ATo (by omega)⟩;have h1:=ih r.toNat hrk c' hc';have h2:(A7 (T.take (j+1)))[r.toNat]?=some (DA (A7 (T.take r.toNat)) c'):=by
     have e1:(A7 (T.take (r.toNat+1)))[r.toNat]?=some (DA (A7 (T.take r.toNat)) c'):=by
      rw[Gw T hc'];have:(A7 (T.take r.toNat)).length=r.toNat:=by rw[C9,AUI];omega
      rw[AUK (by omega),this,AVs];rfl
     rw[EA T (r.toNat+1) (by omega),AUH,if_pos (by omega)]at e1;rw[EA T (j+1) (by omega),AUH,if_pos hrk];exact e1
    rw[h2,AT3];exact h1.mono (SS (by omega)) (by omega)
   have hor:FP (1+sB j*c.refs.length) (3+2*j+1) (.mk 5 0 [] (c.refs.map λr=>((A7 (T.take (j+1)))[r.toNat]?).getD c.body)):=by
    refine FP.node (.inr rfl) (n:=sB j) (λf hf=>?_) ?_
    ·obtain⟨r,hr,rfl⟩:=ATw.1 hf;exact hm r hr
    ·have:=V9 F.size (sB j) (c.refs.map λr=>((A7 (T.take (j+1)))[r.toNat]?).getD c.body) λf hf=>by
      obtain⟨r,hr,rfl⟩:=ATw.1 hf;exact(hm r hr).sz
     rw[AT9]at this;exact this
   have hl2:sB j*c.refs.length≤sB j*2:=AVv _ hcp.lr;have h7:7≤sB j:=SS (AUR j);have hand:=FP.node (op:=4) (.inl rfl) (kids:=[c.body,.mk 5 0 [] (c.refs.map λr=>((A7 (T.take (j+1)))[r.toNat]?).getD c.body)]) (s:=8+sB j*2) (d:=3+2*j+1) (n:=7+(1+sB j*2)) (λf hf=>by
    simp only[ATt,AT2,or_false]at hf;rcases hf with rfl|rfl
    ·exact hcp.body.mono (by omega) (by omega)
    ·exact hor.mono (by omega) (ATs _)) (by
    have h1:=hcp.body.sz;have h2:=hor.sz;simp only[ATz,AVM,AUz,List.sum_nil];omega)
   refine hand.mono ?_ (by omega);simp only[sB];omega
theorem LM (T:List Clm) (hn:T.length≤3) (hc:∀c∈T,CP c) (hlow:∀(k:Nat) (c:Clm),T[k]?=some c→∀r∈c.refs,0≤r∧r <(k:Int)):∀f∈A7 T,f.ok∧BH f=0∧f.nodes.all (okC 6)=true:=by
 intro f hf;obtain⟨k,hk⟩:=AVH.1 hf;have hkl:k <T.length:=by rw[←C9 T];exact(ATp.1 hk).1
 obtain⟨c,hck⟩:∃c,T[k]?=some c:=⟨_,ATo hkl⟩;have h1:=WS T hc hlow k c hck;have h2:(A7 T)[k]?=some (DA (A7 (T.take k)) c):=by
  have e1:(A7 (T.take (k+1)))[k]?=some (DA (A7 (T.take k)) c):=by
   rw[Gw T hck];have:(A7 (T.take k)).length=k:=by rw[C9,AUI];omega
   rw[AUK (by omega),this,AVs];rfl
  rw[EA T (k+1) (by omega),AUH,if_pos (by omega)]at e1;exact e1
 rw[hk]at h2;simp only[ATm]at h2;subst h2;have hs:sB k≤sB 2:=SS (by omega);have e2:sB 2=55:=by decide
 exact h1.ok (by omega) (by omega)
theorem GE (l:List Clm):(Br l).length=l.length:=by
 have:∀(l:List Clm) (acc:List (List F)),(l.foldl (λacc c=>acc++[Dp acc c]) acc).length=acc.length+l.length:=by
  intro l;induction l with
  |nil=>simp
  |cons c l ih=>intro acc;rw[AVB,ih];simp;omega
 have h:=this l [];rw[AU3,AUv]at h;exact h
theorem Lq (l:List Clm) {k:Nat} {c:Clm} (h:l[k]?=some c):Br (l.take (k+1))=Br (l.take k)++[Dp (Br (l.take k)) c]:=by
 rw[AUE,h];unfold Br;rw[AVf];rfl
theorem Kr (l:List Clm):∀k,k≤l.length→Br (l.take k)=(Br l).take k:=by
 have:∀(l m:List Clm),(Br (l++m)).take l.length=Br l:=by
  intro l m;unfold Br;rw[AVf];have:∀(m:List Clm) (acc:List (List F)),∃t,m.foldl (λacc c=>acc++[Dp acc c]) acc=acc++t:=by
   intro m;induction m with
   |nil=>intro acc;exact⟨[],by simp⟩
   |cons c m ih=>
    intro acc;obtain⟨t,ht⟩:=ih (acc++[Dp acc c]);exact⟨[Dp acc c]++t,by rw[AVB,ht];simp⟩
  obtain⟨t,ht⟩:=this m (l.foldl (λacc c=>acc++[Dp acc c]) []);rw[ht];have:=GE l;unfold Br at this;rw[AVq (by omega),AUG (by omega)]
 intro k hk;have h:=this (l.take k) (l.drop k);rw[AUe]at h;rw[←h,AUI,AU1 hk]
theorem Na (l:List Clm) {k:Nat} {c:Clm} (h:l[k]?=some c) (n:Nat) (hn:k <n) (hl:n≤l.length):(Br (l.take n))[k]?=some (Dp (Br (l.take k)) c):=by
 have hkl:k <l.length:=(ATp.1 h).1;have e1:(Br (l.take (k+1)))[k]?=some (Dp (Br (l.take k)) c):=by
  rw[Lq l h];have:(Br (l.take k)).length=k:=by rw[GE,AUI];omega
  rw[AUK (by omega),this,AVs];rfl
 rw[Kr l (k+1) (by omega),AUH,if_pos (by omega)]at e1;rw[Kr l n hl,AUH,if_pos hn];exact e1
structure AP (s:Nat) (f:F):Prop where
 parts:∀p∈BR f,FP s 2 p
 sum:((BR f).map F.size).sum≤s
 all:FP (s+1) 3 f
theorem AP.mono {s s':Nat} {f:F} (h:AP s f) (hs:s≤s'):AP s' f:=⟨λp hp=>(h.parts p hp).mono hs (ATs _),AUV h.sum hs,h.all.mono (by omega) (ATs _)⟩
theorem AP.piece {f:F} (h:FP 3 2 f):AP 3 f:=by
 have hall:FP 4 3 f:=h.mono (by decide) (by decide);obtain⟨op,n,ins,kids⟩:=f;have hsz:=h.sz;have hdp:=h.dp;rw[F.size_eq]at hsz;by_cases h4:op=4
 ·have hp:BR (.mk op n ins kids)=kids:=by simp[BR,F.op,F.kids,h4]
  refine⟨λp hpm=>?_,?_,hall⟩
  ·rw[hp]at hpm;have h1:=F.kid_size hpm;refine⟨λg hg=>h.nd g ?_,by omega,?_⟩
   ·rw[F.nodes_eq];exact AVI _ (AUb.2 ⟨p,hpm,hg⟩)
   ·have:∀(l:List F),p∈l→p.depth≤F.depths l:=by
     intro l;induction l with
     |nil=>intro h;cases h
     |cons x l ih=>
      intro h;simp only[F.depths];rcases ATt.1 h with rfl|h
      ·omega
      ·have:=ih h;omega
    have:=this kids hpm;simp only[F.depth]at hdp;omega
  ·rw[hp];omega
 ·have hp:BR (.mk op n ins kids)=[.mk op n ins kids]:=by simp[BR,F.op,h4]
  refine⟨λp hpm=>?_,?_,hall⟩
  ·rw[hp]at hpm;rw[ATy.1 hpm];exact h
  ·rw[hp];simp only[ATz,AVM,AUz,List.sum_nil,F.size_eq];omega
theorem AP.mkA {s s':Nat} {a b:F} (ha:AP s a) (hb:AP s' b):AP (s+s') (mkA a b):=by
 have hp:BR (Go.Va.mkA a b)=BR a++BR b:=by simp[Go.Va.mkA,BR,F.op,F.kids]
 have hparts:∀p∈BR a++BR b,FP (s+s') 2 p:=by
  intro p hpm;rcases AT7.1 hpm with h|h
  ·exact(ha.parts p h).mono (by omega) (ATs _)
  ·exact(hb.parts p h).mono (by omega) (ATs _)
 have hsum:((BR a++BR b).map F.size).sum≤s+s':=by
  rw[AUN,List.sum_append];have:=ha.sum;have:=hb.sum;omega
 refine⟨by rw[hp];exact hparts,by rw[hp];exact hsum,?_⟩;have:=FP.node (op:=4) (.inl rfl) hparts hsum;exact this.mono (by omega) (by omega)
def lB:Nat→Nat
 |0=>2
 |k+1=>4*lB k
theorem Sj {a b:Nat} (h:a≤b):lB a≤lB b:=by
 induction h with
 |refl=>exact ATs _
 |step _ ih=>simp only[lB];omega
theorem F1 {α β:Type} (f:α→List β) (n:Nat):∀l:List α,(∀x∈l,(f x).length≤n)→(l.flatMap f).length≤n*l.length
 |[],_=>by simp
 |x::l,h=>by
  have h1:=h x (by simp);have h2:=F1 f n l λy hy=>h y (by simp[hy]);simp only[AT8,ATr,AUA,AVi];omega
theorem Ji (T:List Clm) (hc:∀c∈T,CP c) (hlow:∀(k:Nat) (c:Clm),T[k]?=some c→∀r∈c.refs,0≤r∧r <(k:Int)):∀(k:Nat) (c:Clm),T[k]?=some c→
  (Dp (Br (T.take k)) c).length≤lB k∧∀f∈Dp (Br (T.take k)) c,AP (3*(k+1)) f:=by
 intro k;induction k using Nat.strongRecOn with
 |_ k ih=>
  intro c hk;have hcp:=hc c (ATq hk);unfold Dp;by_cases h0:c.refs=[]
  ·rw[if_pos h0];refine⟨AUV hcp.nt (Sj (AUR k)),λf hf=>(AP.piece (hcp.tops f hf)).mono (by omega)⟩
  ·rw[if_neg h0];have hkl:k <T.length:=(ATp.1 hk).1;have hk0:0 <k:=by
    obtain⟨r,hr⟩:=List.exists_mem_of_ne_nil _ h0;have:=hlow k c hk r hr;omega
   obtain⟨j,rfl⟩:∃j,k=j+1:=⟨k-1,by omega⟩;have hm:∀r∈c.refs,∃L,((Br (T.take (j+1)))[r.toNat]?).getD []=L∧L.length≤lB j∧∀f∈L,AP (3*(j+1)) f:=by
    intro r hr;have hrl:=hlow _ c hk r hr;have hrk:r.toNat <j+1:=by omega
    obtain⟨c',hc'⟩:∃c',T[r.toNat]?=some c':=⟨_,ATo (by omega)⟩;obtain⟨h1,h1'⟩:=ih r.toNat hrk c' hc';have h2:=Na T hc' (j+1) hrk (by omega);refine⟨_,by rw[h2,AT3],AUV h1 (Sj (by omega)),λf hf=>(h1' f hf).mono (by omega)⟩
   constructor
   ·have h1:=F1 (λr=>((((Br (T.take (j+1)))[r.toNat]?).getD []).flatMap λa=>c.body.tops.map λb=>Go.Va.mkA a b)) (2*lB j) c.refs (λr hr=>by
     obtain⟨L,hL,hl,_⟩:=hm r hr;rw[hL];have:=F1 (λa=>c.body.tops.map λb=>Go.Va.mkA a b) 2 L (λa _=>by rw[AT9];exact hcp.nt);have h3:2*L.length≤2*lB j:=AVv _ hl;omega)
    have h2:2*lB j*c.refs.length≤2*lB j*2:=AVv _ hcp.lr;simp only[lB];omega
   ·intro f hf;obtain⟨r,hr,hf⟩:=AUb.1 hf;obtain⟨L,hL,_,hap⟩:=hm r hr;rw[hL]at hf;obtain⟨a,ha,hf⟩:=AUb.1 hf;obtain⟨b,hb,rfl⟩:=ATw.1 hf;exact(AP.mkA (hap a ha) (AP.piece (hcp.tops b hb))).mono (by omega)
theorem tA (T:List Clm) (hn:T.length≤3) (hc:∀c∈T,CP c) (hlow:∀(k:Nat) (c:Clm),T[k]?=some c→∀r∈c.refs,0≤r∧r <(k:Int)) (k:Nat) (hk:k <T.length):Ks 6 (CM T k):=by
 obtain⟨c,hck⟩:∃c,T[k]?=some c:=⟨_,ATo hk⟩;obtain⟨h1,h2⟩:=Ji T hc hlow k c hck;have h3:=Na T hck T.length hk (ATs _);rw[AUT]at h3;have e:CM T k=Dp (Br (T.take k)) c:=by unfold CM;rw[AVe,h3];rfl
 rw[e];have hl:lB k≤lB 2:=Sj (by omega);have e2:lB 2=32:=by decide
 refine⟨by omega,λf hf=>?_⟩;exact(h2 f hf).all.ok (by omega) (by omega)
structure AltOK (T:List Clm):Prop where
 len:T.length≤32
 body:∀c∈T,c.body.ok∧c.body.tops.length≤64∧c.refs.length≤8
 low:∀(k:Nat) (c:Clm),T[k]?=some c→∀r∈c.refs,0≤r∧r <(k:Int)
 mka:∀(k:Nat) (c:Clm),T[k]?=some c→(∀r∈c.refs,∀a∈((Br (T.take k))[r.toNat]?).getD [],∀b∈c.body.tops,(mkA a b).ok∧BH (mkA a b)=0)
 pre:∀(k:Nat) (c:Clm),T[k]?=some c→∀j,j≤c.refs.length→((c.refs.take j).flatMap λr=>(((Br (T.take k))[r.toNat]?).getD []).flatMap λa=>c.body.tops.map (mkA a)).length≤64
 one:∀(k:Nat) (c:Clm),T[k]?=some c→∀r∈c.refs,(((Br (T.take k))[r.toNat]?).getD []).length≤64
def Fh (l:List F):V:= .list (l.map F.V)
theorem l24 (T:List Clm) (hT:AltOK T) (h:List Row) (hl:Low h) (d1:V) (m:Nat) (hm:m≤T.length) (Q:AExit→St→Prop)
  (hQ:∀e J,AH e 1= .v d1→AH e 7= .mref h.length→Q (.exit 0) ⟨e,h++Dl ((Br (T.take m)).map Fh)::J⟩):
  awp Tryz.prog GLx (.loop ib) Q ⟨[(1,.v d1),(7,.mref h.length),(24,.v (.list ((T.take m).map Clm.V))),(25,.v (.int .i64 m)),(26,.v (.int .i64 (0:Nat)))],h++[Dl []]⟩:=by
 refine Ae m (λk s=>∃J,Lows J∧s=⟨[(1,.v d1),(7,.mref h.length),(24,.v (.list ((T.take m).map Clm.V))),(25,.v (.int .i64 m)),(26,.v (.int .i64 k))],h++Dl ((Br (T.take k)).map Fh)::J⟩) ⟨[],Lows.nil,by simp[Br]⟩ ?_;rintro k s hk ⟨J,hJ,rfl⟩;simp only[ib,AB,AA,AF,AE,AAr];simp;by_cases hkl:k <m
 ·obtain⟨c,hc⟩:∃c,T[k]?=some c:=⟨_,ATo (by omega)⟩;have hcm:=ATq hc;have hTl:=hT.len;have w1:IntKind.i64.wrap ((k:Int)+1)=k+1:=AJ;have hat:=Lq T hc;have hal:(Br (T.take k)).length=k:=by rw[GE,AUI];omega
  have hcv:((T.take m).map Clm.V)[k]?=some c.V:=by simp[AUH,hkl,hc]
  obtain⟨hb1,hb2,hb3⟩:=hT.body c hcm;have hlc:∀n,Row.low n (.cells [.v (AL .i64 c.refs),.v (.int .i64 c.body.op),.v (.int .i64 c.body.n),.v (.list (c.body.ins.map Ivl.V)),.v (.list (c.body.kids.map F.V))])=true:=λn=>rfl;have q:=p64 (h++Dl ((Br (T.take k)).map Fh)::(J++[.cells [.v (AL .i64 c.refs),.v (.int .i64 c.body.op),.v (.int .i64 c.body.n),.v (.list (c.body.ins.map Ivl.V)),.v (.list (c.body.kids.map F.V))]]))
   (hl.lows (by
    intro row hrow n;rcases ATt.1 hrow with rfl|hrow
    ·rfl
    ·exact(hJ.app hlc) row hrow n)) c hb1 hb2 h.length (Br (T.take k)) (by simp;rfl) (λr hr=>by have:=hT.low k c hc r hr;omega) hb3 (hT.mka k c hc) (hT.pre k c hc) (hT.one k c hc)
  have hput:=Nz ((Br (T.take k)).map Fh) (Fh (Dp (Br (T.take k)) c));rw[AT9,hal,←List.map_singleton (f:=Fh),←AUN]at hput;have hmf:Cl false [0] (.int .i64 k) (De 0 ((Br (T.take k)).map Fh))=some none:=by
   rw[Gv false,if_neg (by simp;omega)]
  have hmr:Dl ((Br (T.take k)).map Fh)= .map (De 0 ((Br (T.take k)).map Fh)) (List.range k) k:=by unfold Dl;rw[AT9,hal]
  rw[hat,←hput];rw[hmr]at q ⊢;generalize Dp (Br (T.take k)) c=R at*;generalize De 0 ((Br (T.take k)).map Fh)=E at*;have hRV:Fh R= .list (R.map F.V):=rfl;rw[hRV];obtain⟨refs,body⟩:=c;simp only[Clm.V,AL]at*;simp at hcv;rw[if_pos (by omega),AD];simp only[AA,AAq];simp[hcv,AO];simp only[AA,AAp];simp;by_cases hr0:refs=[]
  ·rw[if_pos hr0]at q;refine⟨_,_,q,?_⟩;simp[iX,AA,Qr,Be,V.eqL,V.eq1,hmf,Qq,w1,hkl];exact hJ.app hlc
  ·rw[if_neg hr0]at q;refine⟨_,_,q,?_⟩;simp[iX,AA,Qr,Be,V.eqL,V.eq1,hmf,Qq,w1,hkl];exact hJ.app hlc
 ·have hk2:k=m:=by omega
  subst hk2;rw[if_neg (by omega),AM];exact hQ _ _ rfl rfl
theorem p24 (T:List Clm) (hT:AltOK T) (hok:∀c∈T,c.ok) (hz:CL T=0) (i:Nat) (hi:i <T.length):PX 24 [.list (T.map Clm.V),.int .i64 i] [.list ((CM T i).map F.V),.int .i64 0]:=by
 refine Gu (args:=[_,_]) (rets:=[_,_]) ?_;refine As k24 rfl (ATs _) (by intro row h;cases h) (by simp[D.lt]) ?_;have hlen:=hT.len;have q1:=(p63 T hok (by omega) hz i hi).fsp;have hloop:=l24 T hT [] (by intro row h;cases h) (.int .i64 i) (i+1) hi;have w1:IntKind.i64.wrap ((i:Int)+1)=i+1:=AJ;have e1:((i:Int)+1).toNat=i+1:=by omega
 have hho:=Wd T;obtain⟨f,hf⟩:∃f,(Br T)[i]?=some f:=⟨_,ATo (by rw[GE];exact hi)⟩;have hf2:(Br (T.take (i+1)))[i]?=some f:=by
  rw[Kr T (i+1) hi,AUH,if_pos (by omega)];exact hf
 have hfa:CM T i=f:=by unfold CM;simp[hf]
 have hn:((Br (T.take (i+1))).map Fh).length=i+1:=by rw[AT9,GE,AUI];omega
 have hm:Cl false [0] (.int .i64 i) (De 0 ((Br (T.take (i+1))).map Fh))=some (some i):=by
  rw[Gv false,if_pos (by rw[hn];omega)];simp
 have hg:(De 0 ((Br (T.take (i+1))).map Fh))[i]?=some (.int .i64 i,.list (f.map F.V)):=by
  have:=F4 ((Br (T.take (i+1))).map Fh) 0 i (Fh f) (by simp[hf2]);simpa[Fh]using this
 rw[hfa];unfold Dl at hloop;generalize (Br (T.take (i+1))).map Fh=es at*;simp only[c24,AB,AA,AF,AE,AAw,AQ];simp;simp only[AA,AAv];simp;refine⟨_,_,q1 _,?_⟩;simp[AAu,AD,AAt];simp only[AA,AAs];simp[w1,e1,hho,show 0≤(i:Int)+1 by omega,show i+1≤T.length from hi];simp[De]at hloop;refine hloop _ ?_;intro e J g1 g7;simp[ia,g1,g7,Be,V.eqL,V.eq1,hm,hg,Dv,iZ,AD,AA,iY,AG,ANM,D.one?]
theorem AIk (k:Int):okC 6 (CS k)=true:=by
 have h:=AVg (IntKind.i64.wrap (k.tdiv 8)) (b:=6) (by decide);simp only[okC,CS,F.op,F.n,decide_true,AUS,AUf,decide_eq_false_iff_not];exact decide_eq_false (Int.not_le.2 h)
theorem L2 {f:F} (h:f.op≠1):okC 6 f=true:=by simp[okC,h]
structure P3 (f:F):Prop where
 sz:f.size≤3
 dp:f.depth≤2
 cl:∀g∈f.nodes,okC 6 g=true
 op:f.op≠5
theorem LG (n:Int):P3 (Cs n):=by
 unfold Cs;generalize A8 n 1048576=k;have hC:okC 6 (Ck k)=true:=L2 (by simp[Ck,F.op]);have hA:=AIk k;have nA:(CS k).nodes=[CS k]:=by unfold CS;rw[F.nodes_eq];simp
 have nC:(Ck k).nodes=[Ck k]:=by unfold Ck;rw[F.nodes_eq];simp
 have sA:(CS k).size=1:=by unfold CS;rw[F.size_eq];simp
 have sC:(Ck k).size=1:=by unfold Ck;rw[F.size_eq];simp
 have dA:(CS k).depth=1:=by simp[CS,F.depth,F.depths]
 have dC:(Ck k).depth=1:=by simp[Ck,F.depth,F.depths]
 simp only
 repeat' split
 ·exact⟨by omega,by omega,by rw[nA];simpa using hA,by simp[CS,F.op]⟩
 ·exact⟨by omega,by omega,by rw[nC];simpa using hC,by simp[Ck,F.op]⟩
 ·refine⟨by rw[F.size_eq];simp[sA,sC],by simp[F.depth,F.depths,dA,dC],?_,by simp[F.op]⟩;rw[F.nodes_eq];simp only[AT8,AVj,nA,nC];intro g hg;simp at hg;rcases hg with rfl|rfl|rfl
  ·exact L2 (by simp[F.op])
  ·exact hC
  ·exact hA
 ·refine⟨by rw[F.size_eq];simp[sA],by simp[F.depth,F.depths,dA],?_,by simp[F.op]⟩;rw[F.nodes_eq];simp only[AT8,AVj,nA];intro g hg;simp at hg;rcases hg with rfl|rfl
  ·exact L2 (by simp[F.op])
  ·exact hA
 ·refine⟨by rw[F.size_eq];simp[sA],by simp[F.depth,F.depths,dA],?_,by simp[F.op]⟩;rw[F.nodes_eq];simp only[AT8,AVj,nA];intro g hg;simp at hg;rcases hg with rfl|rfl
  ·exact L2 (by simp[F.op])
  ·exact hA
theorem P3.tops {f:F} (h:P3 f):f.tops=[f]:=by
 have h5:=h.op;obtain⟨o,n,i,k⟩:=f;rw[F.tops_eq,if_neg (show ¬o=5 from h5)]
theorem P3.fp {f:F} (h:P3 f) (ho:∀g∈f.nodes,g.ok1) (hf:∀g∈f.nodes,Ax g=true):FP 3 2 f:=⟨λg hg=>⟨ho g hg,hf g hg,h.cl g hg⟩,h.sz,h.dp⟩
theorem OK {f:F} (h:BH f=0):∀g∈f.nodes,Ax g=true:=by
 unfold BH at h;split at h
 ·cases h
 ·split at h
  ·rename_i hall;exact AT4.1 hall
  ·cases h
theorem Vb (l:List Int) (i:Nat) (hi:i≤3) (hz:BH (FK l i).body=0):CP (FK l i):=by
 have ht:=F8 l i hi;have hn:=OK hz;have ho:=λg hg=>(ht.body.one g hg).1;refine⟨ht.lr,?_,?_,?_⟩
 all_goals
  revert hn ho
  unfold FK;generalize Ab l (2*i+1) 1000=k;generalize Ab l (2*i+2) 1048576=m;simp only;have p1:=LG m;have p2:=LG (IntKind.i64.wrap (k.tdiv 4));generalize Cs m=a at*;generalize Cs (IntKind.i64.wrap (k.tdiv 4))=b at*;split
  all_goals intro hn ho
 ·have ha:FP 3 2 a:=p1.fp (λg hg=>ho g (by rw[F.nodes_eq];simp[hg])) (λg hg=>hn g (by rw[F.nodes_eq];simp[hg]));have hb:FP 3 2 b:=p2.fp (λg hg=>ho g (by rw[F.nodes_eq];simp[hg])) (λg hg=>hn g (by rw[F.nodes_eq];simp[hg]));exact FP.node (s:=6) (.inr rfl) (kids:=[a,b]) (by
   intro x hx;simp at hx;rcases hx with rfl|rfl
   ·exact ha
   ·exact hb) (by have:=p1.sz;have:=p2.sz;simp;omega)
 ·exact(p1.fp ho hn).mono (by decide) (by decide)
 ·rw[F.tops_eq,if_pos rfl];simp[p1.tops,p2.tops]
 ·rw[p1.tops];simp
 ·rw[F.tops_eq,if_pos rfl];simp only[AT8,AVj,p1.tops,p2.tops];intro x hx;simp at hx;rcases hx with rfl|rfl
  ·exact p1.fp (λg hg=>ho g (by rw[F.nodes_eq];simp[hg])) (λg hg=>hn g (by rw[F.nodes_eq];simp[hg]))
  ·exact p2.fp (λg hg=>ho g (by rw[F.nodes_eq];simp[hg])) (λg hg=>hn g (by rw[F.nodes_eq];simp[hg]))
 ·rw[p1.tops];intro x hx;simp at hx;subst hx;exact p1.fp ho hn
theorem OU {T:List Clm} (hz:CL T=0) {k:Nat} {c:Clm} (hk:T[k]?=some c):DJ c.refs k=true∧BH c.body=0:=by
 unfold CL at hz;split at hz
 ·cases hz
 ·have hlt:=(ATp.1 hk).1;have h:=G0 _ _ hz k (by omega) (by omega);unfold Hs at h;rw[hk]at h;simp only[KO]at h;split at h
  ·cases h
  ·split at h
   ·rename_i h2;exact⟨h2,h⟩
   ·cases h
theorem WJ {l:List Int} {i:Int} (h:DJ l i=true):∀r∈l,0≤r∧r <i:=by
 have hall:∀k <l.length,Cd l k <l.getD k 0∧l.getD k 0 <i:=by
  intro k hk;unfold DJ at h;simp only[AUf,AU7,AUC]at h;have:=h k hk;simp only[CG,decide_eq_true_eq,not_or,Int.not_le]at this;exact this
 have hpos:∀k <l.length,0≤l.getD k 0:=by
  intro k;induction k with
  |zero=>intro hk;have:=(hall 0 hk).1;simp only[Cd]at this;omega
  |succ k ih=>intro hk;have h1:=(hall (k+1) hk).1;have h2:=ih (by omega);simp only[Cd]at h1;omega
 intro r hr;obtain⟨k,hk,rfl⟩:=List.getElem_of_mem hr;have h1:=hpos k hk;have h2:=(hall k hk).2;have e:l.getD k 0=l[k]:=by simp[List.getD,hk]
 rw[e]at h1 h2;exact⟨h1,h2⟩
structure CsP (T:List Clm):Prop where
 n:T.length≤3
 cp:∀c∈T,CP c
 low:∀(k:Nat) (c:Clm),T[k]?=some c→∀r∈c.refs,0≤r∧r <(k:Int)
 z:CL T=0
 tiny:∀c∈T,c.tiny
theorem OV (l:List Int) (hz:CL (Bf l)=0):CsP (Bf l):=by
 have hn:=HZ l;have hlen:(Bf l).length=Gk l:=by unfold Bf;simp
 have hat:∀(k:Nat) (c:Clm),(Bf l)[k]?=some c→k <Gk l∧c=FK l k:=by
  intro k c h;have hk:=(ATp.1 h).1;rw[hlen]at hk;unfold Bf at h;rw[AT0,AUo hk]at h;simp only[AUF,ATm]at h;exact⟨hk,h.symm⟩
 refine⟨by omega,?_,λk c h=>WJ (OU hz h).1,hz,?_⟩
 ·intro c hc;obtain⟨k,hk⟩:=AVH.1 hc;obtain⟨h1,rfl⟩:=hat k c hk;exact Vb l k (by omega) (OU hz hk).2
 ·intro c hc;obtain⟨k,hk⟩:=AVH.1 hc;obtain⟨h1,rfl⟩:=hat k c hk;exact F8 l k (by omega)
theorem CsP.mean {T:List Clm} (h:CsP T):MeanOK T where
 len:=by have:=h.n;omega
 ok:=λc hc=>(h.tiny c hc).ok
 refs:=λc hc=>by have:=(h.cp c hc).lr;omega
 low:=h.low
 mean:=λf hf=>by have:=LM T h.n h.cp h.low f hf;exact⟨this.1,this.2.1⟩
theorem CsP.fine {r:Rgt} (h:CsP r.claims) (hb:r.bad.length≤2^40):r.fine 6:=⟨hb,h.mean,h.z,λf hf=>(LM r.claims h.n h.cp h.low f hf).2.2⟩
theorem CsP.alts {T:List Clm} (h:CsP T) (k:Nat) (hk:k <T.length):Ks 6 (CM T k):=tA T h.n h.cp h.low k hk
theorem CsP.altOK {T:List Clm} (h:CsP T):AltOK T:=by
 have hk2:∀(k:Nat) (c:Clm),T[k]?=some c→k≤2:=λk c hk=>by
  have:=(ATp.1 hk).1;have:=h.n;omega
 have hlB:∀k,k≤2→lB k≤32:=λk hk=>by
  have:=Sj hk;have e2:lB 2=32:=by decide
  omega
 refine⟨by have:=h.n;omega,λc hc=>?_,h.low,?_,?_,?_⟩
 ·have hcp:=h.cp c hc;exact⟨(hcp.body.ok (by decide) (by decide)).1,by have:=hcp.nt;omega,by have:=hcp.lr;omega⟩
 ·intro k c hk r hr a ha b hb;have h0:c.refs≠[]:=λe=>by rw[e]at hr;cases hr
  have hmem:mkA a b∈Dp (Br (T.take k)) c:=by
   unfold Dp;rw[if_neg h0];exact AUb.2 ⟨r,hr,AUb.2 ⟨a,ha,ATw.2 ⟨b,hb,rfl⟩⟩⟩
  have h2:=(Ji T h.cp h.low k c hk).2 _ hmem;have hkk:=hk2 k c hk;have:=h2.all.ok (by omega) (by omega);exact⟨this.1,this.2.1⟩
 ·intro k c hk j hj;by_cases h0:c.refs=[]
  ·simp[h0]
  ·have h1:=(Ji T h.cp h.low k c hk).1;have hkk:=hlB k (hk2 k c hk);have e:Dp (Br (T.take k)) c=c.refs.flatMap λr=>(((Br (T.take k))[r.toNat]?).getD []).flatMap λa=>c.body.tops.map λb=>mkA a b:=by
    unfold Dp;rw[if_neg h0]
   rw[e]at h1;have hle:((c.refs.take j).flatMap λr=>(((Br (T.take k))[r.toNat]?).getD []).flatMap λa=>c.body.tops.map (mkA a)).length≤(c.refs.flatMap λr=>(((Br (T.take k))[r.toNat]?).getD []).flatMap λa=>c.body.tops.map λb=>mkA a b).length:=by
    conv=>rhs;rw[←AUe j c.refs,AVd,ATr]
    exact Nat.le_add_right _ _
   omega
 ·intro k c hk r hr;have hrl:=h.low k c hk r hr;have hkk:=hk2 k c hk;have hkl:=(ATp.1 hk).1;obtain⟨c',hc'⟩:∃c',T[r.toNat]?=some c':=⟨_,ATo (by omega)⟩;have h2:=Na T hc' k (by omega) (by omega);rw[h2,AT3];have h1:=(Ji T h.cp h.low r.toNat c' hc').1;have:=hlB r.toNat (by omega);omega
theorem APu {T:List Clm} (h:CsP T) (i:Nat) (hi:i <T.length):PX 24 [.list (T.map Clm.V),.int .i64 i] [.list ((CM T i).map F.V),.int .i64 0]:=
 p24 T h.altOK (λc hc=>(h.tiny c hc).ok) h.z i hi
theorem AIM {T:List Clm} (h:CsP T) (i:Nat) (hi:i <T.length):PX 274 [.list (T.map Clm.V),.int .i64 i] [(CF T i).V,.int .i64 0]:=
 APj T i hi h.mean h.z
theorem Wk (p:Int) (hp:p <5) (i j:Nat) (hij:i <j) (hj:j <p.toNat):F2 ((i+p).tmod 5)≠F2 ((j+p).tmod 5):=by
 obtain⟨q,rfl⟩:∃q:Nat,p=q:=⟨p.toNat,by omega⟩;have hq:q <5:=by omega
 have hj':j <q:=by simpa using hj
 have:∀q:Nat,q <5→∀j:Nat,j <q→∀i:Nat,i <j→F2 (((i:Int)+(q:Int)).tmod 5)≠F2 (((j:Int)+(q:Int)).tmod 5):=by
  intro q hq j hj i hi;have h1:q=0∨q=1∨q=2∨q=3∨q=4:=by omega
  have h2:j=0∨j=1∨j=2∨j=3:=by omega
  have h3:i=0∨i=1∨i=2:=by omega
  rcases h1 with rfl|rfl|rfl|rfl|rfl<;>rcases h2 with rfl|rfl|rfl|rfl<;>rcases h3 with rfl|rfl|rfl<;>first|omega|decide
 exact this q hq j hj' i hij
theorem C8 (l:List Int):(Ad l).Pairwise λa b=>a.file≠b.file:=by
 unfold Ad;refine List.Pairwise.filter _ ?_;rw[List.pairwise_map];have hb:=Dh l 0 5 (by decide);refine List.Pairwise.imp_of_mem ?_ (AVX (n:=(Ab l 0 5).toNat));intro i j hi hj hij;have h2:=AUC.1 hj;exact Wk (Ab l 0 5) hb.2 i j hij h2
theorem DZ {l:List Int} {r:Rgt} (h:r∈Ad l):∃i,r=CR l i∧At r=true:=by
 unfold Ad at h;obtain⟨h1,h2⟩:=AVL.1 h;obtain⟨i,_,rfl⟩:=ATw.1 h1;exact⟨i,rfl,h2⟩
theorem OJ {r:Rgt} (h:At r=true):CL r.claims=0:=by
 unfold At at h;simp only[ATn,beq_iff_eq]at h;exact h.1.1.1.1.1.1.2
theorem C4 {l:List Int} {r:Rgt} (h:r∈Ad l):CsP r.claims:=by
 obtain⟨i,rfl,hf⟩:=DZ h;have hz:=OJ hf;have e:∃m,(CR l i).claims=Bf m:=⟨_,rfl⟩;obtain⟨m,hm⟩:=e;rw[hm]at hz ⊢;exact OV m hz
theorem Di {α:Type} {l:List α} {k:Nat} {x:α} (h:l[k]?=some x) (f:α→V):(l.map f).take (k+1)=(l.map f).take k++[f x]:=by
 rw[AUE,AT0,h];rfl
theorem L8 {α:Type} (l:List α) (f:α→V):(l.map f).take l.length=l.map f:=AUG (by simp)
def mkL (r:Rgt) (ds:List Dat) (os:List Own) (ls:List Lic):Row:=
 .cells [.v (.int .i64 r.file),.v (.int .i64 r.state),.v (.int .i64 r.force),.v (.list (r.claims.map Clm.V)),.own 88 4 (ds.map Dat.V),.v (AL .i64 r.bad),.own 246 3 (os.map Own.V),.own 247 4 (ls.map Lic.V)]
theorem AIq (r:Rgt) (hn:r.dates.length≤2^30) (R1:Row) (os:List Own) (ls:List Lic):
  awp Tryz.prog GLx (.loop Yj) (λe s=>e= .exit 0∧AH s.e 1= .ref 0 0∧AH s.e 2= .ref 1 0∧AH s.e 3= .ref 2 0∧s.h=[r.row,R1,mkL r r.dates os ls])
   ⟨[(1,.ref 0 0),(2,.ref 1 0),(3,.ref 2 0),(4,.v (.int .i64 0))],[r.row,R1,mkL r [] os ls]⟩:=by
 refine Ac r.dates.length (λk=>⟨[(1,.ref 0 0),(2,.ref 1 0),(3,.ref 2 0),(4,.v (.int .i64 k))],[r.row,R1,mkL r (r.dates.take k) os ls]⟩) (by simp) ?_;intro k hk;simp only[Yj,AB,AA,AF,AE,zG];simp[Rgt.row];by_cases hlt:k <r.dates.length
 ·obtain⟨x,hxk⟩:∃x,r.dates[k]?=some x:=⟨_,ATo hlt⟩;have hxe:r.dates[k]=x:=(ATp.1 hxk).2;have hw:IntKind.i64.wrap ((k:Int)+1)=k+1:=AJ;have hroom:Ah (k+1) 32=true:=by simp[Ah];omega
  have ht:(r.dates.take k).length=k:=by simp;omega
  have hm:min k r.dates.length=k:=by omega
  have e:=Di hxk Dat.V;rw[if_pos (by omega),AD];simp only[Aa,zE];simp[hxk,Dat.V,mkL,AO,hm,hroom];simp[zF,hw,hlt,e,Dat.V,mkL,Rgt.row]
 ·have:k=r.dates.length:=by omega
  subst this;rw[if_neg (by omega),AM];simp[Rgt.row]
theorem AIp (r:Rgt) (hn:r.owners.length≤2^30) (R1:Row) (ds:List Dat) (ls:List Lic):
  awp Tryz.prog GLx (.loop Yi) (λe s=>e= .exit 2∧AH s.e 1= .ref 0 0∧AH s.e 2= .ref 1 0∧AH s.e 3= .ref 2 0∧s.h=[r.row,R1,mkL r ds r.owners ls])
   ⟨[(1,.ref 0 0),(2,.ref 1 0),(3,.ref 2 0),(5,.v (.int .i64 0))],[r.row,R1,mkL r ds [] ls]⟩:=by
 refine Ac r.owners.length (λk=>⟨[(1,.ref 0 0),(2,.ref 1 0),(3,.ref 2 0),(5,.v (.int .i64 k))],[r.row,R1,mkL r ds (r.owners.take k) ls]⟩) (by simp) ?_;intro k hk;simp only[Yi,AB,AA,AF,AE,zB];simp[Rgt.row];by_cases hlt:k <r.owners.length
 ·obtain⟨x,hxk⟩:∃x,r.owners[k]?=some x:=⟨_,ATo hlt⟩;have hxe:r.owners[k]=x:=(ATp.1 hxk).2;have hw:IntKind.i64.wrap ((k:Int)+1)=k+1:=AJ;have hroom:Ah (k+1) 24=true:=by simp[Ah];omega
  have ht:(r.owners.take k).length=k:=by simp;omega
  have hm:min k r.owners.length=k:=by omega
  have e:=Di hxk Own.V;rw[if_pos (by omega),AD];simp only[Aa,y8];simp[hxk,Own.V,mkL,AO,hm,hroom];simp[zA,hw,hlt,e,Own.V,mkL,Rgt.row]
 ·have:k=r.owners.length:=by omega
  subst this;rw[if_neg (by omega),AM];simp[Rgt.row]
theorem AIo (r:Rgt) (hn:r.lics.length≤2^30) (R1:Row) (ds:List Dat) (os:List Own):
  awp Tryz.prog GLx (.loop Yh) (λe s=>e= .exit 4∧AH s.e 1= .ref 0 0∧AH s.e 2= .ref 1 0∧AH s.e 3= .ref 2 0∧∃J,s.h=r.row::R1::mkL r ds os r.lics::J)
   ⟨[(1,.ref 0 0),(2,.ref 1 0),(3,.ref 2 0),(6,.v (.int .i64 0))],[r.row,R1,mkL r ds os []]⟩:=by
 refine Ae r.lics.length (λk s=>s.e=[(1,.ref 0 0),(2,.ref 1 0),(3,.ref 2 0),(6,.v (.int .i64 k))]∧∃J,s.h=r.row::R1::mkL r ds os (r.lics.take k)::J) ⟨by simp,[],by simp⟩ ?_;rintro k ⟨se,sh⟩ hk ⟨he,J2,hh⟩;simp only at he hh;subst he hh;simp only[Yh,AB,AA,AF,AE,Yf];simp[Rgt.row];by_cases hlt:k <r.lics.length
 ·obtain⟨x,hxk⟩:∃x,r.lics[k]?=some x:=⟨_,ATo hlt⟩;have hxe:r.lics[k]=x:=(ATp.1 hxk).2;have hw:IntKind.i64.wrap ((k:Int)+1)=k+1:=AJ;have hroom:Ah (k+1) 32=true:=by simp[Ah];omega
  have ht:(r.lics.take k).length=k:=by simp;omega
  have hm:min k r.lics.length=k:=by omega
  have e:=Di hxk Lic.V;rw[if_pos (by omega),AD];simp only[AA,Yd];simp[hxk,Lic.V,mkL,AO,hm,hroom];simp only[Yc];simp[mkL,AO,hm,hroom];simp[Ye,hw,hlt,e,Lic.V,mkL,Rgt.row]
 ·have:k=r.lics.length:=by omega
  subst this;rw[if_neg (by omega),AM];simp[Rgt.row]
theorem p53 (r:Rgt) (hr:r.ok):PX 53 [r.V] [r.V]:=by
 refine AK k53 rfl ?_;simp only[c53,AB,AA,AF,zJ,zI,AY];simp[Rgt.V,Rgt.cs,AO,zH];have q0:=λR1=>AIq r hr.ld R1 [] [];have q1:=λR1=>AIp r hr.lo R1 r.dates [];have q2:=λR1=>AIo r hr.ll R1 r.dates r.owners;simp only[mkL,Rgt.row,Rgt.cs,AVM]at q0 q1 q2;refine AX _ ?_ (q0 _);rintro e ⟨se,sh⟩ ⟨rfl,f1,f2,f3,hh⟩;simp only at f1 f2 f3 hh;subst hh;simp[zC,f1,f2,f3];refine AX _ ?_ (q1 _);rintro e ⟨se,sh⟩ ⟨rfl,f1,f2,f3,hh⟩;simp only at f1 f2 f3 hh;subst hh;simp[Yg,f1,f2,f3];refine AX _ ?_ (q2 _);rintro e ⟨se,sh⟩ ⟨rfl,f1,f2,f3,J,hh⟩;simp only at f1 f2 f3 hh;subst hh;simp[Yb,f1,f2,f3,AG,ALn,D.vs?,D.v?,AO,AL]
theorem p14 (l:List Rgt) (hl:∀r∈l,r.ok) (hn:l.length≤2^30):PX 14 [.list (l.map Rgt.V)] [.list (l.map Rgt.V)]:=by
 refine AK k14 rfl ?_;simp only[c14,AB,AA,AF,ABi,ABh,ABg,AY];simp;refine Ac l.length (λk=>⟨[(0,.v (.list (l.map Rgt.V))),(3,.own 74 8 ((l.take k).map Rgt.V)),(4,.v (.int .i64 k))],[]⟩) (by simp) ?_;intro k hk;simp only[ABj,AB,AA,AF,AE,ABf];simp;by_cases hlt:k <l.length
 ·obtain⟨x,hxk⟩:∃x,l[k]?=some x:=⟨_,ATo hlt⟩;have hxe:l[k]=x:=(ATp.1 hxk).2;have hw:IntKind.i64.wrap ((k:Int)+1)=k+1:=AJ;have hroom:Ah (k+1) 144=true:=by simp[Ah];omega
  have hm:min k l.length=k:=by omega
  have e:=Di hxk Rgt.V;have p1:=(p53 x (hl x (ATq hxk))).fsp;rw[if_pos (by omega),AD];simp only[AA,ABd];simp[Rgt.V,Rgt.cs]at p1;simp[hxk,Rgt.V,Rgt.cs];refine⟨_,_,p1 _,?_⟩;simp[hm,hroom,ABe,hw,hlt,e,Rgt.V,Rgt.cs]
 ·have:k=l.length:=by omega
  subst this;rw[if_neg (by omega),AM];simp[ABc,AG,AOd,L8]
theorem O9 (l:List Int) (hi:∀n∈l,i64 n) (hn:l.length≤2^30) (h:List Row) (w:Nat) (xs:List Int) (hw:h[w]?=some (wr xs)) (hb:xs.length≤2^44):
  FX 129 [.v (AL .i64 l),.ref w 0] h [] (h.set w (wr (xs++l.flatMap Ag))):=by
 refine AN AKC rfl ?_;obtain⟨HH,hHH⟩:∃HH,h.set w (wr (xs++l.flatMap Ag))=HH:=⟨_,rfl⟩;rw[hHH];simp only[AHT,AB,AA,AF,rI,AQ];simp[AL];refine Ac l.length (λk=>⟨[(1,.ref w 0),(5,.v (AL .i64 l)),(6,.v (.int .i64 l.length)),(7,.v (.int .i64 k))],h.set w (wr (xs++(l.take k).flatMap Ag))⟩) ?_ ?_
 ·have:h.set w (wr xs)=h:=by
   obtain⟨g1,g2⟩:=ATp.1 hw;rw[←g2,AWY]
  simp[AL,this]
 intro k hk;simp only[rJ,AB,AA,AF,AE,rH];simp[AL];by_cases h1:k <l.length
 ·have hx:l[k]?=some l[k]:=ATo h1;have hww:IntKind.i64.wrap ((k:Int)+1)=k+1:=AJ;have hf:=CZ (l.take k);have ht:(l.take k).length=k:=by simp;omega
  rw[if_pos (by omega),AD];simp only[AA,rG,rF];simp[hx];refine⟨_,_,(p98 l[k] (hi _ (AUc h1)) (h.set w (wr (xs++(l.take k).flatMap Ag))) w _ (BU hw) (by rw[ATr];omega)),?_⟩;simp[rE,hww,h1];rw[DC h1]
 ·have:k=l.length:=by omega
  subst this;rw[if_neg (by omega),AM];simp[rK,hHH]
set_option maxHeartbeats 1000000 in
theorem PA (r:Rgt) (hr:r.ok):PX 128 [r.V] [.bool (At r)]:=by
 refine AK AKD rfl ?_;obtain⟨R,hR⟩:∃R,At r=R:=⟨_,rfl⟩;rw[hR];unfold At at hR;have hlc:=hr.lc;have hld:=hr.ld;have hll:=hr.ll;have p1:=(JM r.file 0 4095).fsp;have p2:=(JM r.state 0 4).fsp;have p3:=(JM r.force 0 4).fsp;have p4:=(ACm r.claims hr.claims (by omega)).fsp;have p5:=λ(h:List Row) (q:Nat) (hq:h[q]?=some (.cells [.v (.int .i64 r.claims.length)])) (hl:Low h)=>
  AQJ r.dates (Fc r.claims.length) (.func 218 [.ref q 0]) 218 [.ref q 0] (FV.r 218 q 0 []) rfl rfl h hl (by simp[D.lt,D.lts];exact CJ hq) (by omega) λx _ H h1 h2=>AQI x r.claims.length H q (h2 q _ hq) ⟨by omega,by omega⟩ h1
 have p6:=(AQH r.dates (by omega)).fsp;have p7:=λ(h:List Row) (q:Nat) (hq:h[q]?=some (.cells [.v (.int .i64 r.claims.length)])) (hl:Low h)=>
  AQF r.bad (λi=>inI i 0 (r.claims.length-1)) (.func 222 [.ref q 0]) 222 [.ref q 0] (FV.r 222 q 0 []) rfl rfl h hl (by simp[D.lt,D.lts];exact CJ hq) (by have:=hr.lb;omega) λx _ H h1 h2=>AQE x r.claims.length H q (h2 q _ hq) ⟨by omega,by omega⟩
 have p8:=(AQD r.bad (by have:=hr.lb;omega)).fsp;have p9:=λ(h:List Row) (hl:Low h)=>AQB r.owners EF (.v (.func 226 [])) 226 [] (FV.v 226 []) rfl rfl h hl rfl (by have:=hr.lo;omega) λx hx H h1 h2=>(AQA x (hr.owners x hx)).fsp H;have p10:=(AP9 r.owners (by have:=hr.lo;omega)).fsp;have p11:=λ(h:List Row) (hl:Low h)=>AP7 r.lics Fa (.v (.func 231 [])) 231 [] (FV.v 231 []) rfl rfl h hl rfl (by omega) λx hx H h1 h2=>(AP6 x).fsp H;have Hc:∀a b c d e f g i n:V,Low [.cells [.v a,.v b,.v c,.v d,.v e,.v f,.v g,.v i],.cells [.v n]]:=by
  intro a b c d e f g i n row hrow;simp at hrow;rcases hrow with rfl|rfl<;>rfl
 simp[AL]at p1 p2 p3 p4 p5 p6 p7 p8 p9 p10 p11;simp only[AHU,AB,AA,AF,AE,rO,rN,AY];simp[Rgt.V,Rgt.cs,AO];generalize inI r.file 0 4095=A1 at*;generalize inI r.state 0 4=A2 at*;generalize inI r.force 0 4=A3 at*;generalize CL r.claims=A4 at*;generalize r.dates.all (Fc r.claims.length)=B1 at*;generalize Bz Fd r.dates=B2 at*;generalize (r.bad.all λi=>inI i 0 (r.claims.length-1))=B3 at*;generalize Bz (λa b=>decide (a <b)) r.bad=B4 at*;generalize r.owners.all EF=B5 at*;generalize Bz (λa b=>decide (a.party <b.party)) r.owners=B6 at*;generalize r.lics.all Fa=B7 at*;simp only[rM];simp;refine⟨_,_,p1 _,?_⟩;cases A1 with
 |false=>simp at hR;simp[AB,AA,AG,HA,IB,hR]
 |true=>
 simp;refine⟨_,_,p2 _,?_⟩;cases A2 with
 |false=>simp at hR;simp[AB,AA,AG,HA,IB,hR]
 |true=>
 simp;refine⟨_,_,p3 _,?_⟩;cases A3 with
 |false=>simp at hR;simp[AB,AA,AG,HA,IB,hR]
 |true=>
 simp;refine⟨_,_,p4 _,?_⟩;by_cases h4:A4=0
 case neg=>
  have hf:R=false:=by rw[←hR];simp[h4]
  simp[h4,AB,AA,AG,HA,IB,hf]
 subst h4;by_cases h5:4096 <r.dates.length
 ·have h5':4096 <(r.dates.length:Int):=by omega
  have hf:R=false:=by rw[←hR];simp;omega
  simp[h5',AB,AA,AG,HA,IB,hf]
 have h5':¬4096 <(r.dates.length:Int):=by omega
 by_cases h6:4096 <r.lics.length
 ·have h6':4096 <(r.lics.length:Int):=by omega
  have hf:R=false:=by rw[←hR];simp;omega
  simp[h5',h6',AB,AA,AG,HA,IB,hf]
 have h6':¬4096 <(r.lics.length:Int):=by omega
 have e5:r.dates.length≤4096:=by omega
 have e6:r.lics.length≤4096:=by omega
 have hR2:(B1&&B2&&(B3&&B4)&&(B5&&B6)&&B7)=R:=by rw[←hR];simp[e5,e6]
 clear hR;simp[h5',h6',AD];generalize hrows:[Row.cells [D.v (V.int IntKind.i64 r.file),D.v (V.int IntKind.i64 r.state),D.v (V.int IntKind.i64 r.force),D.v (V.list (List.map Clm.V r.claims)),D.v (V.list (List.map Dat.V r.dates)),D.v (AL IntKind.i64 r.bad),D.v (V.list (List.map Own.V r.owners)),D.v (V.list (List.map Lic.V r.lics))],
  Row.cells [D.v (V.int IntKind.i64 ↑r.claims.length)]]=H
 have hlow:Low H:=by rw[←hrows];exact Hc _ _ _ _ _ _ _ _ _
 have h0:H[0]?=some (Row.cells [D.v (V.int IntKind.i64 r.file),D.v (V.int IntKind.i64 r.state),D.v (V.int IntKind.i64 r.force),D.v (V.list (List.map Clm.V r.claims)),D.v (V.list (List.map Dat.V r.dates)),D.v (AL IntKind.i64 r.bad),D.v (V.list (List.map Own.V r.owners)),D.v (V.list (List.map Lic.V r.lics))]):=by rw[←hrows];rfl
 have h1:H[1]?=some (Row.cells [D.v (V.int IntKind.i64 ↑r.claims.length)]):=by rw[←hrows];rfl
 have s4:∀(K:St→Prop) (e:Env),AH e 1= .ref 0 0→AH e 3= .ref 1 0→(∀e',AH e' 1= .ref 0 0→AH e' 3= .ref 1 0→AH e' 4= .v (.bool (B1&&B2))→K ⟨e',H⟩)→Bd Tryz.prog GLx Rj K ⟨e,H⟩:=by
  intro K e f1 f3 hK;simp only[Rj];simp[D.vs?,D.v?,f1,f3,h0];refine⟨_,_,(p5 _ 1 h1 hlow),?_⟩;cases B1 with
  |false=>simp;exact hK _ f1 f3 rfl
  |true=>
   simp[h0,AL];refine⟨_,_,(p6 _),?_⟩;cases B2<;>(simp;exact hK _ f1 f3 rfl)
 have s5:∀(K:St→Prop) (e:Env),AH e 1= .ref 0 0→AH e 3= .ref 1 0→(∀e',AH e' 1= .ref 0 0→AH e' 4=AH e 4→AH e' 5= .v (.bool (B3&&B4))→K ⟨e',H⟩)→Bd Tryz.prog GLx Ri K ⟨e,H⟩:=by
  intro K e f1 f3 hK;simp only[Ri];simp[D.vs?,D.v?,f1,f3,h0,AL];refine⟨_,_,(p7 _ 1 h1 hlow),?_⟩;cases B3 with
  |false=>simp;exact hK _ f1 rfl rfl
  |true=>
   simp[h0,AL];refine⟨_,_,(p8 _),?_⟩;cases B4<;>(simp;exact hK _ f1 rfl rfl)
 have s6:∀(K:St→Prop) (e:Env),AH e 1= .ref 0 0→(∀e',AH e' 1= .ref 0 0→AH e' 4=AH e 4→AH e' 5=AH e 5→AH e' 6= .v (.bool (B5&&B6))→K ⟨e',H⟩)→Bd Tryz.prog GLx Rh K ⟨e,H⟩:=by
  intro K e f1 hK;simp only[Rh];simp[f1,h0];refine⟨_,_,(p9 _ hlow),?_⟩;cases B5 with
  |false=>simp;exact hK _ f1 rfl rfl rfl
  |true=>
   simp[h0,AL];refine⟨_,_,(p10 _),?_⟩;cases B6<;>(simp;exact hK _ f1 rfl rfl rfl)
 have s7:∀(K:St→Prop) (e:Env),AH e 1= .ref 0 0→(∀e',AH e' 4=AH e 4→AH e' 5=AH e 5→AH e' 6=AH e 6→AH e' 7= .v (.bool B7)→K ⟨e',H⟩)→Bd Tryz.prog GLx Rg K ⟨e,H⟩:=by
  intro K e f1 hK;simp only[Rg];simp[f1,h0];refine⟨_,_,(p11 _ hlow),?_⟩;simp;exact hK _ rfl rfl rfl rfl
 refine s4 _ _ rfl rfl ?_;intro e4 g1 g3 g4;refine s5 _ _ (by simp[g1]) (by simp[g3]) ?_;intro e5 k1 k4 k5;refine s6 _ _ (by simp[k1]) ?_;intro e6' m1 m4 m5 m6;refine s7 _ _ (by simp[m1]) ?_;intro e7 n4 n5 n6 n7;simp at k4 m4 m5 n4 n5 n6;generalize (B1&&B2)=C1 at*;generalize (B3&&B4)=C2 at*;generalize (B5&&B6)=C3 at*;subst hR2;simp only[rL];simp[n4,n5,n6,n7,m4,m5,m6,k4,k5,g4];cases C1<;>cases C2<;>cases C3<;>simp[AG,IB]
end Go.Va
