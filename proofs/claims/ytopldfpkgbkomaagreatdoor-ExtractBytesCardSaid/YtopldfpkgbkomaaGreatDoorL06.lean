/- Laws that ExtractBytes leans on, part 6. No condition of its own. -/
import Derived.Test.YtopldfpkgbkomaaGreatDoorL03
set_option linter.all false
set_option maxRecDepth 100000
set_option maxHeartbeats 4000000
noncomputable section
namespace Go.Va
open Go.Proofs
theorem D3:∀(k:Nat) (n:Int),1≤(Ci k n).length
 |0,n=>by simp[Ci]
 |k+1,n=>by
  simp only[Ci];split<;>simp
theorem Je:∀l:List Int,l.length≤(l.flatMap AN).length
 |[]=>by simp
 |x::l=>by
  have:=D3 9 (Fy x);have:=Je l;simp only[qN,qG,qT,AN,CY]at *;omega
theorem lF (xs:List Int) (h:List Row) (r:Nat) (rest:List Int) (hb:xs.length+rest.length≤2^44) (hr:h[r]?=some (Fq (AY xs++rest))):
  FX 202 [.ref r 0,.meth 203 [.ref r 0]] h [.own 5 1 (xs.map (.int .u8))] (h.set r (Fq rest)):=by
 refine Fn 202 ?_;have w1:∀n:Int,0≤n→n≤2^50→IntKind.u64.wrap n=n:=λn h0 hn=>BM (by omega) (by omega);simp only[At 202,AE,AU,AG,AA 202 0,AA 202 1,Ab];simp;refine⟨_,_,(mH xs.length ⟨by omega,by omega⟩ h r (xs++rest) (by simpa[AY,Ah]using hr)),?_⟩;simp only[AG,AL,AA 202 2];have hlen:xs.length≤(xs).length:=by exact qM _
 have hlen2:(xs).length≤10*xs.length:=by omega
 have w2:IntKind.u64.wrap ((xs).length+rest.length:Int)=(xs).length+rest.length:=w1 _ (by omega) (by omega);have hlt:¬(((xs).length+rest.length:Int) <xs.length):=by omega
 generalize hX:xs=X at w2 hlt;simp[Aq hr,Fq,AH,w2,hlt,AB];subst hX;simp only[AA 202 4,AA 202 5];simp;refine AM xs.length (λk=>⟨[(0,.ref r 0),(1,.meth 203 [.ref r 0]),(5,.v (.int .u64 xs.length)),(6,.own 5 1 ((xs.take k).map (.int .u8))),(7,.v (.int .u64 k))],h.set r (Fq ((xs.drop k)++rest))⟩) (by simp[Fq,AH]) ?_;intro k hk;simp only[Zw,BA 202 0,AA 202 6];by_cases h1:k <xs.length
 ·have hd:xs.drop k=xs[k]::xs.drop (k+1):=tu h1;simp[Aq hr,Fq,h1,AB];simp only[AA 202 8];simp;refine⟨_,_,(Wq xs[k] (xs.drop (k+1)++rest) _ r (by rw[Aq hr,hd];rfl)),?_⟩;have hroom:AK (k+1) 1=true:=by simp[AK];omega
  have ht:min k xs.length=k:=by omega
  simp[ht,hroom];simp only[AA 202 7];have w3:IntKind.u64.wrap ((k:Int)+1)=k+1:=w1 _ (by omega) (by omega);have htk:(xs.map (V.int .u8)).take (k+1)=(xs.map (V.int .u8)).take k++[V.int .u8 xs[k]]:=by
   rw[←rE,←rE,sQ h1,qh];rfl
  simp[w3,Fq,htk]
 ·have:k=xs.length:=by omega
  subst this;simp[Fq,AJ];simp only[AA 202 9];simp[Aq hr];simp only[AA 202 11];simp[AX 202,AD,AH]
section
def Hb (xs:List Int) (e:Int):Row:= .cells [.v (AH .u8 xs),.v (.int .i64 e)]
theorem YV (xs:List Int):Hb xs 0=Fq xs:=rfl
abbrev RS:=List Int×Int
def RS.row (s:RS):Row:=Hb s.1 s.2
def Mx:RS→Int×RS
 |([],e)=>(0,[],if e=0 then 3 else e)
 |(c::xs,e)=>if e=0 then (c,xs,0) else (0,c::xs,e)
theorem UZ (s:RS) (e:Int) (h:List Row) (r:Nat) (hr:h[r]?=some s.row):FX 207 [.ref r 0,.v (.int .i64 e)] h [] (h.set r (Hb s.1 (if s.2=0 then e else s.2))):=by
 refine Fn 207 ?_;obtain⟨xs,e0⟩:=s;simp only[RS.row,Hb]at hr ⊢;by_cases h0:e0=0
 ·simp[At 207,awp,AA 207 0,AA 207 1,AX 207,Ab,hr,h0,AS]
 ·have:h.set r (.cells [.v (AH .u8 xs),.v (.int .i64 e0)])=h:=by
   obtain⟨g1,g2⟩:=qK.1 hr;rw[←g2,uB]
  simp[At 207,awp,AA 207 0,AA 207 1,AX 207,Ab,hr,h0,this]
variable {r:Nat} {h:List Row}
theorem F9 {x:Row} (hr:h[r]?=some x):h.set r x=h:=by
 obtain⟨g1,g2⟩:=qK.1 hr;rw[←g2,uB]
theorem dm (s:RS) (h:List Row) (r:Nat) (hr:h[r]?=some s.row):FX 203 [.ref r 0] h [.v (.int .u8 (Mx s).1)] (h.set r (Mx s).2.row):=by
 obtain⟨xs,e⟩:=s;cases xs with
 |nil=>
  refine Fn 203 ?_;have q:=UZ ([],e) 3 h r hr;obtain⟨e',he'⟩:∃e',(if e=0 then 3 else e)=e':=⟨_,rfl⟩;have hne:e'≠0:=by rw[←he'];split<;>omega
  simp only[he']at q;simp only[RS.row,Hb,AH,rW,Mx,he']at hr q ⊢;simp only[At 203,AE,AG,AL,AA 203 0,AA 203 1,Ab];simp[hr];simp only[AA 203 2];simp;refine⟨_,_,q,?_⟩;simp only[AA 203 3];simp[Aq hr,hne,AD,AA 203 4,AX 203]
 |cons c xs=>
  by_cases h0:e=0
  ·subst h0;simpa[Mx,RS.row,YV]using Wq c xs h r hr
  ·refine Fn 203 ?_;have hs:=F9 hr;simp only[Mx,if_neg h0];rw[hs];simp only[RS.row,Hb,AH]at hr;have h1:¬((xs.length:Int)+1=0):=by omega
   simp only[At 203,AE,AG,AL,AA 203 0,AA 203 1,Ab];simp[hr,h1,AB];simp only[AA 203 3];simp[hr,h0,AD,AA 203 4,AX 203]
variable {Q:AExit→St→Prop}
theorem gK {d3 d4:D} {xs:List Int} {e:Int} (hr:h[r]?=some (Hb xs e)) (he:e≠0) (hq:∀en,AF en 0= .ref r 0→Q (.exit 0) ⟨en,h⟩):
  awp Tryz.prog An (lG 119 0) Q ⟨[(0,.ref r 0),(3,d3),(4,d4)],h⟩:=by
 simp only[Zw,BA 119 0,AA 119 3];simp[hr,Hb,he,AJ];exact hq _ rfl
variable {i:Nat} {c:Int}
theorem gF {acc:Int} {xs:List Int} (hr:h[r]?=some (Fq (c::xs))) (hi:i≤9) (hbad:(i=9∧1 <c)∨(0 <i∧c=0))
  (hgo:∀n,Q .normal ⟨[(0,.ref r 0),(3,.v (.int .u64 n)),(4,.v (.int .i64 (i+1)))],h.set r (Hb xs 2)⟩):
  awp Tryz.prog An (lG 119 0) Q ⟨[(0,.ref r 0),(3,.v (.int .u64 acc)),(4,.v (.int .i64 i))],h⟩:=by
 have a6:=Bo i;have a3:IntKind.i64.wrap (7*(i:Int))=7*i:=AQ;have k3:0≤7*(i:Int):=by omega
 have q:=UZ (xs,0) 2 (h.set r (Fq xs)) r (by rw[Aq hr];rfl);simp only[if_true,rI]at q;simp only[Zw,BA 119 0,AA 119 3];simp[hr,Fq,AH,AB];simp only[AA 119 5];simp;refine⟨_,_,(Wq c xs h r hr),?_⟩;have tail:∀x:D,Bd Tryz.prog An (oG 119 7) (λs'=>Bd Tryz.prog An (oG 119 8) (λs'=>Bd Tryz.prog An (oG 119 9) (λs'=>match (AF s'.e 47).copy with
   | .v (.bool t)=>if t=true then Bd Tryz.prog An (oG 119 10) (λs'=>Q .ret ⟨[(2,AF s'.e 2)],s'.h⟩) ⟨[(0,AF s'.e 0),(3,AF s'.e 3),(4,AF s'.e 4),(47,AF s'.e 47)],s'.h⟩
    else Bd Tryz.prog An (oG 119 4) (λs'=>Q .normal ⟨[(0,AF s'.e 0),(3,AF s'.e 3),(4,AF s'.e 4)],s'.h⟩) ⟨[(0,AF s'.e 0),(3,AF s'.e 3),(4,AF s'.e 4),(47,AF s'.e 47)],s'.h⟩
   |_=>False) ⟨[(0,AF s'.e 0),(3,AF s'.e 3),(4,AF s'.e 4),(5,AF s'.e 5)],s'.h⟩) ⟨[(0,AF s'.e 0),(3,AF s'.e 3),(4,AF s'.e 4),(5,AF s'.e 5)],s'.h⟩) ⟨[(0,.ref r 0),(3,.v (.int .u64 acc)),(4,.v (.int .i64 i)),(5,.v (.int .u8 c)),(28,x)],h.set r (Fq xs)⟩:=by
  intro x;simp only[AA 119 7];simp;refine⟨_,_,q,?_⟩;simp only[AA 119 8];simp[a3,k3];simp only[AA 119 9];by_cases hl:c <128
  ·simp[hl,Aq hr,Hb,AH];simp only[AA 119 4];simp[a6];exact hgo _
  ·simp[hl,Hb,AH];simp only[AA 119 4];simp[a6];exact hgo _
 simp only[AA 119 6];by_cases h9:i=9∧1 <c
 ·obtain⟨rfl,h1⟩:=h9;simp[h1];exact tail _
 ·obtain⟨h0,rfl⟩:0 <i∧c=0:=hbad.resolve_left h9;by_cases h8:((i:Int)=9)
  ·have k1:((i:Int)=9)=True:=eq_true h8;simp[k1,h0];exact tail _
  ·simp[h8,h0];exact tail _
theorem gE {acc:Int} (hr:h[r]?=some (Fq [])) (hi:i≤9)
  (hgo:∀n,Q .normal ⟨[(0,.ref r 0),(3,.v (.int .u64 n)),(4,.v (.int .i64 (i+1)))],h.set r (Hb [] 3)⟩):
  awp Tryz.prog An (lG 119 0) Q ⟨[(0,.ref r 0),(3,.v (.int .u64 acc)),(4,.v (.int .i64 i))],h⟩:=by
 have a6:=Bo i;have a3:IntKind.i64.wrap (7*(i:Int))=7*i:=AQ;have k3:0≤7*(i:Int):=by omega
 have q:=UZ ([],3) 2 (h.set r (Hb [] 3)) r (by rw[Aq hr];rfl);have q0:=dm ([],0) h r hr;simp only[rI,Mx,RS.row,if_true,Int.reduceEq,if_false]at q q0;simp only[Zw,BA 119 0,AA 119 3];simp[hr,Fq,AH,AB];simp only[AA 119 5];simp;refine⟨_,_,q0,?_⟩;have tail:∀T:CH,Bd Tryz.prog An (oG 119 8) (λs'=>Bd Tryz.prog An (oG 119 9) (λs'=>match (AF s'.e 47).copy with
   | .v (.bool t)=>if t=true then Bd Tryz.prog An (oG 119 10) (λs'=>Q .ret ⟨[(2,AF s'.e 2)],s'.h⟩) ⟨[(0,AF s'.e 0),(3,AF s'.e 3),(4,AF s'.e 4),(47,AF s'.e 47)],s'.h⟩
    else Bd Tryz.prog An (oG 119 4) (λs'=>Q .normal ⟨[(0,AF s'.e 0),(3,AF s'.e 3),(4,AF s'.e 4)],s'.h⟩) ⟨[(0,AF s'.e 0),(3,AF s'.e 3),(4,AF s'.e 4),(47,AF s'.e 47)],s'.h⟩
   |_=>False) ⟨[(0,AF s'.e 0),(3,AF s'.e 3),(4,AF s'.e 4),(5,AF s'.e 5)],s'.h⟩) ⟨(0,.ref r 0)::(3,.v (.int .u64 acc))::(4,.v (.int .i64 i))::(5,.v (.int .u8 0))::T,h.set r (Hb [] 3)⟩:=by
  intro T;simp only[AA 119 8];simp[a3,k3];simp only[AA 119 9];simp[Aq hr,Hb];simp only[AA 119 4];simp[a6];exact hgo _
 simp only[AA 119 6];by_cases h0:0 <i
 ·by_cases h8:((i:Int)=9)
  ·have k1:((i:Int)=9)=True:=eq_true h8;simp[k1,h0];simp only[AA 119 7];simp;refine⟨_,_,q,?_⟩;exact tail []
  ·simp[h8,h0];simp only[AA 119 7];simp;refine⟨_,_,q,?_⟩;exact tail []
 ·obtain rfl:i=0:=by omega
  simp;exact tail [(28,_)]
def LS:Nat→Int→List Int→Int×RS
 |_,_,[]=>(0,[],3)
 |0,acc,c::xs=>if 1 <c∨c=0 then (0,xs,2) else (acc+c*128^9,xs,0)
 |k+1,acc,c::xs=>if k <8∧c=0 then (0,xs,2) else if c <128 then (acc+c*128^(8-k),xs,0) else LS k (acc+(c%128)*128^(8-k)) xs
def As (s:RS):Int×RS:=if s.2=0 then LS 9 0 s.1 else (0,s)
variable {s:St}
theorem ON {P:Program} {GL:Ac} {c:AC} {S:Int→St} (h:awp P GL c (λe s'=>match e with| .normal=>∃n,s'=S n|e=>Q e s') s)
  (h2:∀n,awp P GL c (λe s'=>match e with| .normal=>False|e=>Q e s') (S n)):awp P GL (.loop c) Q s:=by
 refine⟨λm s'=>(m=1∧s'=s)∨(m=0∧∃n,s'=S n),⟨1,.inl ⟨rfl,rfl⟩⟩,?_⟩;rintro m s' (⟨rfl,rfl⟩|⟨rfl,n,rfl⟩)
 ·refine AZ _ ?_ h;intro e s2 hh;cases e with
  |normal=>exact⟨0,by omega,.inr ⟨rfl,hh⟩⟩
  |exit i=>exact hh
  |ret=>exact hh
 ·refine AZ _ ?_ (h2 n);intro e s2 hh;cases e with
  |normal=>exact hh.elim
  |exit i=>exact hh
  |ret=>exact hh
def cK (h:List Row) (r:Nat) (R:Int×RS):AExit→St→Prop:=λe s=>s.h=h.set r R.2.row∧((e= .ret∧R.2.2=0∧AF s.e 2= .v (.int .u64 R.1))∨(e= .exit 0∧R.2.2≠0∧R.1=0))
theorem OM {xs:List Int} {e:Int} {s0:Row} (hr:h[r]?=some s0) (he:e≠0) (j:Int)
  (hb:∀Q:AExit→St→Prop,(∀n,Q .normal ⟨[(0,.ref r 0),(3,.v (.int .u64 n)),(4,.v (.int .i64 j))],h.set r (Hb xs e)⟩)→awp Tryz.prog An (lG 119 0) Q s):
  awp Tryz.prog An (.loop (lG 119 0)) (cK h r (0,xs,e)) s:=by
 refine ON (S:=λn=>⟨[(0,.ref r 0),(3,.v (.int .u64 n)),(4,.v (.int .i64 j))],h.set r (Hb xs e)⟩) (hb _ λn=>⟨n,rfl⟩) λn=>?_;exact gK (Aq hr) he λen _=>⟨rfl,.inr ⟨rfl,he,rfl⟩⟩
theorem mQ (k:Nat):∀(acc:Int) (i:Nat) (h:List Row) (r:Nat) (xs:List Int),i+k=9→0≤acc→acc <128^i→(∀x∈xs,0≤x∧x <256)→h[r]?=some (Fq xs)→
  awp Tryz.prog An (.loop (lG 119 0)) (cK h r (LS k acc xs)) ⟨[(0,.ref r 0),(3,.v (.int .u64 acc)),(4,.v (.int .i64 i))],h⟩:=by
 induction k with
 |zero=>
  intro acc i h r xs hik h0 h1 hB hr;obtain rfl:i=9:=by omega
  cases xs with
  |nil=>exact OM hr (by decide) _ λQ hQ=>gE hr (by omega) hQ
  |cons c xs=>
   obtain⟨c0,c1⟩:=hB c (by simp);rw[LS];have e9:(128:Int)^9=9223372036854775808:=by decide
   by_cases hb:1 <c∨c=0
   ·rw[if_pos hb];exact OM hr (by decide) _ λQ hQ=>gF hr (by omega) (by omega) hQ
   ·rw[if_neg hb];obtain rfl:c=1:=by omega
    rw[e9]at h1;refine Aa (TZ (c:=1) (xs:=xs) hr ⟨c0,c1⟩ (by omega) (by omega) (by omega) ⟨h0,by rw[e9];exact h1⟩ (by rw[e9];omega) (λ_=>⟨rfl,.inl ⟨rfl,rfl,rfl⟩⟩) (λh=>by omega))
 |succ k ih=>
  intro acc i h r xs hik h0 h1 hB hr;have h8:8-k=i:=by omega
  cases xs with
  |nil=>exact OM hr (by decide) _ λQ hQ=>gE hr (by omega) hQ
  |cons c xs=>
   obtain⟨c0,c1⟩:=hB c (by simp);have hp:(0:Int) <128^i:=sF (by decide);have hp1:(128:Int)^(i+1)=128^i*128:=rN ..;have hle:(c%128)*128^i≤127*128^i:=ry (by omega) (sE hp);have hge:0≤(c%128)*128^i:=sS (by omega) (sE hp);have hlt:acc+(c%128)*128^i <128^(i+1):=by omega
   have h18:(128:Int)^(i+1)≤128^9:=by
    have h2:=Int.ofNat_le.2 (so (n:=128) (by decide) (show i+1≤9 by omega));rw[sb,sb]at h2;exact h2
   have e9:(128:Int)^9=9223372036854775808:=by decide
   rw[LS,h8];by_cases hb:k <8∧c=0
   ·rw[if_pos hb];exact OM hr (by decide) _ λQ hQ=>gF hr (by omega) (by omega) hQ
   ·rw[if_neg hb];by_cases hc:c <128
    ·rw[if_pos hc];refine Aa (TZ (c:=c) (xs:=xs) hr ⟨c0,c1⟩ (by omega) (by omega) (by omega) ⟨h0,h1⟩ (by omega) (λ_=>⟨rfl,.inl ⟨rfl,rfl,rfl⟩⟩) (λh=>by omega))
    ·rw[if_neg hc];have q:=ih (acc+(c%128)*128^i) (i+1) (h.set r (Fq xs)) r xs (by omega) (by omega) hlt (λx hx=>hB x (by simp[hx])) (Aq hr);refine A5 (s1:=⟨[(0,.ref r 0),(3,.v (.int .u64 (acc+(c%128)*128^i))),(4,.v (.int .i64 ((i+1:Nat):Int)))],h.set r (Fq xs)⟩) ?_ ?_
     ·exact TZ (c:=c) hr ⟨c0,c1⟩ (by omega) (by omega) (by omega) ⟨h0,h1⟩ (by omega) (λh=>by omega) (λ_=>by rw[rQ];rfl)
     ·unfold cK at q ⊢;rw[rI]at q;exact q
theorem Rq (s:RS) (hB:∀x∈s.1,0≤x∧x <256) (h:List Row) (r:Nat) (hr:h[r]?=some s.row):FX 119 [.ref r 0] h [.v (.int .u64 (As s).1)] (h.set r (As s).2.row):=by
 refine Fn 119 ?_;obtain⟨xs,e⟩:=s;unfold As;simp only[At 119,AE,AU,AG,AA 119 0,AA 119 1,AA 119 2,Ab];simp;by_cases h0:e=0
 ·subst h0;have q:=mQ 9 0 0 h r xs (by omega) (by omega) (by decide) hB hr;simp at q;refine AZ _ ?_ q;rintro e ⟨se,sh⟩ ⟨hh,⟨rfl,he,hf⟩|⟨rfl,he,hz⟩⟩
  ·simp only at hh hf;simp[hh,hf,AX 119]
  ·simp only at hh;simp[hh,hz,AD,AA 119 11,AX 119]
 ·simp only[if_neg h0];refine Aa (gK (xs:=xs) (e:=e) hr h0 λen _=>?_);simp[AD,AA 119 11,AX 119,RS.row];exact(F9 hr).symm
end
theorem RP:u64 0:=by unfold u64;omega
theorem Rk:∀(k:Nat) (acc:Int) (xs:List Int),(LS k acc xs).2.1 <:+ xs
 |k,acc,[]=>by cases k<;>exact List.suffix_refl _
 |0,acc,c::xs=>by
  rw[LS];split<;>exact List.suffix_cons _ _
 |k+1,acc,c::xs=>by
  rw[LS];split
  ·exact List.suffix_cons _ _
  ·split
   ·exact List.suffix_cons _ _
   ·exact(Rk k _ xs).trans (List.suffix_cons _ _)
theorem Bi (s:RS):(As s).2.1 <:+ s.1:=by
 unfold As;split
 ·exact Rk _ _ _
 ·exact List.suffix_refl _
theorem Rj:∀(k:Nat) (acc:Int) (xs:List Int),k≤9→0≤acc→acc <128^(9-k)→(∀x∈xs,0≤x∧x <256)→u64 (LS k acc xs).1
 |k,acc,[],_,_,_,_=>by cases k<;>exact RP
 |0,acc,c::xs,_,h0,h1,hB=>by
  obtain⟨c0,c1⟩:=hB c (by simp);have e9:(128:Int)^9=9223372036854775808:=by decide
  simp only[sV,e9]at h1;rw[LS];split
  ·exact RP
  ·obtain rfl:c=1:=by omega
   rw[e9];unfold u64;omega
 |k+1,acc,c::xs,hk,h0,h1,hB=>by
  obtain⟨c0,c1⟩:=hB c (by simp);obtain⟨i,hi⟩:∃i,8-k=i:=⟨_,rfl⟩;have hi2:9-(k+1)=i:=by omega
  have hi3:9-k=i+1:=by omega
  rw[hi2]at h1;have hp:(0:Int) <128^i:=sF (by decide);have hp1:(128:Int)^(i+1)=128^i*128:=rN ..;have hle:(c%128)*128^i≤127*128^i:=ry (by omega) (sE hp);have hge:0≤(c%128)*128^i:=sS (by omega) (sE hp);have hlt:acc+(c%128)*128^i <128^(i+1):=by omega
  have h18:(128:Int)^(i+1)≤128^9:=by
   have h2:=Int.ofNat_le.2 (so (n:=128) (by decide) (show i+1≤9 by omega));rw[sb,sb]at h2;exact h2
  have e9:(128:Int)^9=9223372036854775808:=by decide
  rw[LS,hi];split
  ·exact RP
  ·split
   ·rename_i hc;have hm:c%128=c:=by omega
    rw[hm]at hge hlt;unfold u64;omega
   ·exact Rj k _ xs (by omega) (by omega) (by rw[hi3];exact hlt) λx hx=>hB x (by simp[hx])
theorem GH (s:RS) (hB:∀x∈s.1,0≤x∧x <256):u64 (As s).1:=by
 unfold As;split
 ·exact Rj 9 0 s.1 (by omega) (by omega) (by decide) hB
 ·exact RP
theorem Rl:∀(k:Nat) (acc:Int) (xs:List Int),k≤9→(∀x∈xs,0≤x∧x <256)→(LS k acc xs).2.2=0→
  ∃m,0≤m∧m <128^(k+1)∧(k <9→0 <m)∧xs=Ci k m++(LS k acc xs).2.1∧(LS k acc xs).1=acc+m*128^(9-k)
 |k,acc,[],_,_,h=>by cases k<;>exact absurd h (by show ¬((3:Int)=0);decide)
 |0,acc,c::xs,_,hB,h=>by
  obtain⟨c0,c1⟩:=hB c (by simp);rw[LS]at h ⊢;by_cases hb:1 <c∨c=0
  ·rw[if_pos hb]at h;exact absurd h (by show ¬((2:Int)=0);decide)
  ·rw[if_neg hb];obtain rfl:c=1:=by omega
   exact⟨1,by omega,by decide,λ_=>by omega,rfl,rfl⟩
 |k+1,acc,c::xs,hk,hB,h=>by
  obtain⟨c0,c1⟩:=hB c (by simp);have hi2:9-(k+1)=8-k:=by omega
  have hp:(128:Int)≤128^(k+1+1):=by
   have h2:=Int.ofNat_le.2 (so (n:=128) (by decide) (show 1≤k+1+1 by omega));rw[sb,sb]at h2;exact h2
  rw[LS]at h ⊢;rw[hi2];by_cases hb:k <8∧c=0
  ·rw[if_pos hb]at h;exact absurd h (by show ¬((2:Int)=0);decide)
  ·rw[if_neg hb]at h ⊢;by_cases hc:c <128
   ·rw[if_pos hc];refine⟨c,c0,by omega,λ_=>by omega,?_,rfl⟩;simp[Ci,hc]
   ·rw[if_neg hc]at h ⊢;obtain⟨m,m0,m1,m2,m3,m4⟩:=Rl k _ xs (by omega) (λx hx=>hB x (by simp[hx])) h;have hm:=m2 (by omega);have e1:(c%128+128*m)/128=m:=by omega
    have e2:128+(c%128+128*m)%128=c:=by omega
    have hp1:(128:Int)^(k+1+1)=128^(k+1)*128:=rN ..;have hp2:(128:Int)^(9-k)=128^(8-k)*128:=by rw[show 9-k=(8-k)+1 by omega];exact rN ..
    refine⟨c%128+128*m,by omega,by omega,λ_=>by omega,?_,?_⟩
    ·rw[Ci,if_neg (by omega),e1,e2,rz,←m3]
    ·rw[m4,hp2,sM,←Int.add_assoc,rX (128^(8-k)) 128,←sN,rX m 128]
theorem Sk (s:RS) (hB:∀x∈s.1,0≤x∧x <256) (h:(As s).2.2=0):s.2=0∧s.1=CY (As s).1++(As s).2.1:=by
 unfold As at h ⊢;by_cases h0:s.2=0
 ·rw[if_pos h0]at h ⊢;obtain⟨m,-,-,-,m3,m4⟩:=Rl 9 0 s.1 (by omega) hB h;refine⟨h0,?_⟩;rw[m4];simpa[CY]using m3
 ·rw[if_neg h0]at h;exact absurd h h0
def OV (n:Int):Int:=if n%2=0 then n/2 else -(n/2)-1
theorem RM {n:Int} (h:u64 n):i64 (OV n):=by
 unfold u64 at h;unfold OV i64;split<;>omega
theorem WK {n:Int} (h:u64 n):Fy (OV n)=n:=by
 unfold u64 at h;unfold OV Fy;split<;>split<;>omega
def Ad (s:RS):Int×RS:=(OV (As s).1,(As s).2)
theorem JK (s:RS) (hB:∀x∈s.1,0≤x∧x <256):i64 (Ad s).1:=RM (GH s hB)
theorem DW (s:RS) (hB:∀x∈s.1,0≤x∧x <256) (h:List Row) (r:Nat) (hr:h[r]?=some s.row):FX 45 [.ref r 0] h [.v (.int .i64 (Ad s).1)] (h.set r (Ad s).2.row):=by
 refine Fn 45 ?_;have hu:=GH s hB;have q1:=Rq s hB h r hr;have q2:=mJ (OV (As s).1) (RM hu);rw[WK hu]at q2;unfold Ad;generalize (As s).1=n at*;generalize (As s).2=s' at*;simp[At 45,awp,AA 45 0,AA 45 1,AX 45,Ab];refine⟨_,_,q1,?_⟩;simp;refine⟨_,q2.fsp _,?_⟩;simp
def Fk (s:RS):Int:=if s.2=0∧0 <s.1.length then 2 else s.2
theorem La (s:RS) (h:List Row) (r:Nat) (hr:h[r]?=some s.row):FX 116 [.ref r 0] h [.v (.int .i64 (Fk s))] h:=by
 refine Fn 116 ?_;obtain⟨xs,e⟩:=s;simp only[RS.row,Hb,AH]at hr;unfold Fk;by_cases h0:e=0
 ·subst h0;cases xs with
  |nil=>simp[At 116,awp,AA 116 0,AA 116 1,AA 116 2,AA 116 3,AX 116,Ab,hr]
  |cons c xs=>
   have h1:(0:Int) <(xs.length:Int)+1:=by omega
   simp[At 116,awp,AA 116 0,AA 116 1,AA 116 2,AA 116 3,AX 116,Ab,hr,h1]
 ·simp[At 116,awp,AA 116 0,AA 116 1,AA 116 2,AA 116 3,AX 116,Ab,hr,h0]
def Bl (s:RS):List Int×RS:=if (As s).2.2≠0 then ([],(As s).2) else if ((As s).2.1.length:Int) <(As s).1 then ([],((As s).2.1,3)) else ((As s).2.1.take (As s).1.toNat,((As s).2.1.drop (As s).1.toNat,0))
theorem Mv (s:RS):(As s).2.2≠0→(As s).1=0:=by
 have key:∀(k:Nat) (acc:Int) (xs:List Int),(LS k acc xs).2.2≠0→(LS k acc xs).1=0:=by
  intro k;induction k with
  |zero=>
   intro acc xs h;cases xs with
   |nil=>rfl
   |cons c xs=>rw[LS]at h ⊢;split<;>simp_all
  |succ k ih=>
   intro acc xs h;cases xs with
   |nil=>rfl
   |cons c xs=>
    rw[LS]at h ⊢;split
    ·rfl
    ·rename_i hb;rw[if_neg hb]at h;split
     ·rename_i hc;rw[if_pos hc]at h;exact absurd rfl h
     ·rename_i hc;rw[if_neg hc]at h;exact ih _ _ h
 intro h;unfold As at h ⊢;split
 ·rename_i h0;rw[if_pos h0]at h;exact key _ _ _ h
 ·rfl
theorem dq (s:RS) (hB:∀x∈s.1,0≤x∧x <256) (hl:s.1.length≤2^44) (h:List Row) (r:Nat) (hr:h[r]?=some s.row):
  FX 202 [.ref r 0,.meth 203 [.ref r 0]] h [.own 5 1 ((Bl s).1.map (.int .u8))] (h.set r (Bl s).2.row):=by
 have hu:=GH s hB;have hsl:=(Bi s).length_le;have q1:=Rq s hB h r hr;by_cases h1:(As s).2.2=0
 ·obtain⟨e0,e1⟩:=Sk s hB h1;by_cases h2:((As s).2.1.length:Int) <(As s).1
  ·have hR:Bl s=([],((As s).2.1,3)):=by unfold Bl;rw[if_neg (by simpa using h1),if_pos h2]
   rw[hR];refine Fn 202 ?_;generalize (As s).1=n at*;obtain⟨xs,e⟩:∃xs,(As s).2.1=xs:=⟨_,rfl⟩;have hs2:(As s).2=(xs,0):=tF e h1;rw[e]at hsl h2 ⊢;rw[hs2]at q1;have w1:IntKind.u64.wrap (xs.length:Int)=xs.length:=BM (by omega) (by omega);have q3:=UZ (xs,0) 3 (h.set r (Hb xs 0)) r (by rw[Aq hr];rfl);simp only[if_true,rI]at q3;simp only[RS.row]at q1 ⊢;simp only[Zw,At 202,AA 202 0,AA 202 1,Ab];simp;refine⟨_,_,q1,?_⟩;simp only[AA 202 2];simp[Aq hr,Hb,AH,w1,h2];simp only[AA 202 3];simp;refine⟨_,_,q3,?_⟩;simp only[AA 202 4,AA 202 5];simp;refine Aa ?_;simp only[Zw,BA 202 0,AA 202 6];have hn0:0 <n:=by omega
   simp[hn0,Aq hr,Hb,AJ];simp only[AA 202 9];simp[Aq hr,AD,AA 202 10,AX 202];rfl
  ·have hn:((As s).1.toNat:Int)=(As s).1:=tL hu.1;have hR:Bl s=((As s).2.1.take (As s).1.toNat,((As s).2.1.drop (As s).1.toNat,0)):=by unfold Bl;rw[if_neg (by simpa using h1),if_neg h2]
   rw[hR];have hlen:((As s).2.1.take (As s).1.toNat).length=(As s).1.toNat:=by rw[qv];omega
   refine lF ((As s).2.1.take (As s).1.toNat) h r ((As s).2.1.drop (As s).1.toNat) (by rw[←qG,rJ];omega) ?_;rw[hr,AY,hlen,hn,qg,rJ,←e1,←YV,←e0];rfl
 ·have hn:=Mv s h1;have hR:Bl s=([],(As s).2):=by unfold Bl;rw[if_pos h1]
  rw[hR];refine Fn 202 ?_;rw[hn]at q1;obtain⟨xs,e,hs2⟩:∃xs e,(As s).2=(xs,e):=⟨_,_,rfl⟩;rw[hs2]at q1 h1 hsl ⊢;simp only at h1 hsl;have w1:IntKind.u64.wrap (xs.length:Int)=xs.length:=BM (by omega) (by omega);have h3:¬((xs.length:Int) <0):=by omega
  simp only[RS.row]at q1 ⊢;simp only[Zw,At 202,AA 202 0,AA 202 1,Ab];simp;refine⟨_,_,q1,?_⟩;simp only[AA 202 2];simp[Aq hr,Hb,AH,w1,h3,AB];simp only[AA 202 4,AA 202 5];simp;refine Aa ?_;simp only[Zw,BA 202 0,AA 202 6];simp[AJ];simp only[AA 202 9];simp[Aq hr,h1,AD,AA 202 10,AX 202]
theorem M2 (s:RS) (hB:∀x∈s.1,0≤x∧x <256) (hl:s.1.length≤2^44) (h:List Row) (r:Nat) (hr:h[r]?=some s.row):FX 112 [.ref r 0] h [.own 5 1 ((Bl s).1.map (.int .u8))] (h.set r (Bl s).2.row):=by
 refine Fn 112 ?_;simp[At 112,awp,AA 112 0,AA 112 1,AX 112,Ab];refine⟨_,(dq s hB hl h r hr),?_⟩;simp
def Da:Nat→RS→List Int×RS
 |0,s=>([],s)
 |n+1,s=>if s.2≠0 then ([],s) else ((Ad s).1::(Da n (Ad s).2).1,(Da n (Ad s).2).2)
def Am (s:RS):List Int×RS:=if (As s).2.2≠0 then ([],(As s).2) else if ((As s).2.1.length:Int) <(As s).1 then ([],((As s).2.1,3)) else
 if (Da (As s).1.toNat (As s).2).2.2≠0 then ([],(Da (As s).1.toNat (As s).2).2) else Da (As s).1.toNat (As s).2
theorem fN (N:Nat) (hN:N≤2^44):∀(n k:Nat) (acc:List Int) (s:RS) (h:List Row) (r:Nat),k+n=N→acc.length=k→(∀x∈s.1,0≤x∧x <256)→h[r]?=some s.row→
  awp Tryz.prog An (.loop (lG 206 0)) (λe st=>e= .exit 0∧AF st.e 0= .ref r 0∧AF st.e 6= .own 3 1 ((acc++(Da n s).1).map (.int .i64))∧st.h=h.set r (Da n s).2.row)
   ⟨[(0,.ref r 0),(1,.meth 45 [.ref r 0]),(5,.v (.int .u64 N)),(6,.own 3 1 (acc.map (.int .i64))),(7,.v (.int .u64 k))],h⟩:=by
 intro n;induction n with
 |zero=>
  intro k acc s h r hk ha hB hr;obtain rfl:k=N:=by omega
  refine Aa ?_;simp only[Zw,BA 206 0,AA 206 6];simp[AJ,Da,F9 hr]
 |succ n ih=>
  intro k acc s h r hk ha hB hr;obtain⟨xs,e⟩:=s;have hlt:(k:Int) <N:=by omega
  by_cases h0:e=0
  ·subst h0;have hR:Da (n+1) (xs,0)=((Ad (xs,0)).1::(Da n (Ad (xs,0)).2).1,(Da n (Ad (xs,0)).2).2):=by rw[Da];simp
   rw[hR];have q1:=DW (xs,0) hB h r hr;have w3:IntKind.u64.wrap ((k:Int)+1)=((k+1:Nat):Int):=by rw[BM (by omega) (by omega)];omega
   have hroom:AK (acc.length+1) 8=true:=by simp[AK];omega
   have hsuf:(Ad (xs,0)).2.1 <:+ xs:=Bi (xs,0);have q:=ih (k+1) (acc++[(Ad (xs,0)).1]) (Ad (xs,0)).2 (h.set r (Ad (xs,0)).2.row) r (by omega) (by simp[ha]) (λx hx=>hB x (hsuf.subset hx)) (Aq hr);rw[rI]at q;generalize (Ad (xs,0)).1=v at*;generalize (Ad (xs,0)).2=s' at*;refine A5 (s1:=⟨[(0,.ref r 0),(1,.meth 45 [.ref r 0]),(5,.v (.int .u64 N)),(6,.own 3 1 ((acc++[v]).map (.int .i64))),(7,.v (.int .u64 (k+1:Nat)))],h.set r s'.row⟩) ?_ (by simpa using q);simp only[Zw,BA 206 0,AA 206 6];simp only[RS.row,Hb]at hr;simp[hlt,hr,AB];simp only[AA 206 8];simp;refine⟨_,_,q1,?_⟩;simp[hroom,AA 206 7,w3]
  ·have hR:Da (n+1) (xs,e)=([],(xs,e)):=by rw[Da,if_pos h0]
   rw[hR,F9 hr];simp only[RS.row,Hb]at hr;refine Aa ?_;simp only[Zw,BA 206 0,AA 206 6];simp[hlt,hr,h0,AJ]
theorem di (s:RS) (hB:∀x∈s.1,0≤x∧x <256) (hl:s.1.length≤2^44) (h:List Row) (r:Nat) (hr:h[r]?=some s.row):
  FX 206 [.ref r 0,.meth 45 [.ref r 0]] h [.own 3 1 ((Am s).1.map (.int .i64))] (h.set r (Am s).2.row):=by
 have hu:=GH s hB;have hsuf:=Bi s;have hsl:=hsuf.length_le;have q1:=Rq s hB h r hr;refine Fn 206 ?_;obtain⟨G,hG⟩:∃G,Am s=G:=⟨_,rfl⟩;rw[hG];unfold Am at hG;have hz:=Mv s;generalize (As s).1=n at*;obtain⟨xs,e,hs2⟩:∃xs e,(As s).2=(xs,e):=⟨_,_,rfl⟩;rw[hs2]at q1 hsl hsuf hG hz;simp only at hsl hsuf hG hz;have hBx:∀x∈xs,0≤x∧x <256:=λx hx=>hB x (hsuf.subset hx);have w1:IntKind.u64.wrap (xs.length:Int)=xs.length:=BM (by omega) (by omega);have q3:=UZ (xs,e) 3 (h.set r (Hb xs e)) r (by rw[Aq hr];rfl);simp only[rI]at q3;simp only[RS.row]at q1;simp only[Zw,At 206,AA 206 0,AA 206 1,Ab];simp;refine⟨_,_,q1,?_⟩;simp only[AA 206 2];by_cases h2:(xs.length:Int) <n
 ·have he:e=0:=by
   by_cases he:e=0
   ·exact he
   ·have:=hz he;omega
  subst he;simp[h2]at hG;subst hG;simp only[if_true]at q3;simp[Aq hr,Hb,AH,w1,h2];simp only[AA 206 3];simp;refine⟨_,_,q3,?_⟩;simp only[AA 206 4,AA 206 5];simp;refine Aa ?_;simp only[Zw,BA 206 0,AA 206 6];have hn0:0 <n:=by omega
  simp[hn0,Aq hr,Hb,AJ];simp only[AA 206 9];simp[Aq hr,AD,AA 206 10,AX 206,RS.row,Hb]
 ·have hn:(n.toNat:Int)=n:=tL hu.1;have q:=fN n.toNat (by omega) n.toNat 0 [] (xs,e) (h.set r (Hb xs e)) r (by omega) rfl hBx (by rw[Aq hr];rfl);rw[rI,hn]at q;simp[Aq hr,Hb,AH,w1,h2,AB];simp only[AA 206 4,AA 206 5];simp;simp[Hb,AH]at q;refine AZ _ ?_ q;rintro ex ⟨se,sh⟩ ⟨rfl,f0,f6,hh⟩;simp only at f0 f6 hh;subst hh;have hx:e≠0→Da n.toNat (xs,e)=([],(xs,e)):=by
   intro he;have:=hz he;subst this;rfl
  simp;simp only[AA 206 9];obtain⟨ys,zs,e2,hm⟩:∃ys zs e2,Da n.toNat (xs,e)=(ys,(zs,e2)):=⟨_,_,_,rfl⟩;rw[hm]at f6 hG hx ⊢;simp only[RS.row,Hb]at*;by_cases he:e=0
  ·subst he;by_cases he2:e2=0
   ·simp[h2,he2]at hG;subst hG;simp[f0,f6,Aq hr,he2,AD,AA 206 11,AX 206]
   ·simp[h2,he2]at hG;subst hG;simp[f0,Aq hr,he2,AD,AA 206 10,AX 206]
  ·have:=hx he;simp only[sW]at this;obtain⟨rfl,rfl,rfl⟩:=this;simp[he]at hG;subst hG;simp[f0,Aq hr,he,AD,AA 206 10,AX 206]
theorem M1 (s:RS) (hB:∀x∈s.1,0≤x∧x <256) (hl:s.1.length≤2^44) (h:List Row) (r:Nat) (hr:h[r]?=some s.row):FX 114 [.ref r 0] h [.own 3 1 ((Am s).1.map (.int .i64))] (h.set r (Am s).2.row):=by
 refine Fn 114 ?_;simp[At 114,awp,AA 114 0,AA 114 1,AX 114,Ab];refine⟨_,(di s hB hl h r hr),?_⟩;simp
def CI (L:Nat) (s:RS):Int:=if (Ad s).1 <0 then 0 else if (L:Int) <(Ad s).1 then L else (Ad s).1
theorem DT (L:Nat) (s:RS):0≤CI L s∧CI L s≤L:=by unfold CI;split<;>(try split)<;>omega
theorem dl (h:List Row) (c4 c1 rr:Nat) (bs:List V) (s:RS) (hB:∀x∈s.1,0≤x∧x <256) (h4:h[c4]?=some (.cells [.ref rr 0])) (h1:h[c1]?=some (.cells [.v (.list bs)])) (hr:h[rr]?=some s.row) (hne:c1≠rr):
  FX 204 [.ref c4 0,.ref c1 0] h [.v (.int .i64 (CI bs.length s))] (h.set rr (Ad s).2.row):=by
 refine Fn 204 ?_;have q:=DW s hB h rr hr;unfold CI;generalize (Ad s).1=n at*;generalize (Ad s).2=s' at*;have h1':(h.set rr s'.row)[c1]?=some (.cells [.v (.list bs)]):=by rw[qz (Ne.symm hne)];exact h1
 have z:¬((bs.length:Int) <0):=by omega
 simp only[At 204,AE,AG,AA 204 0,Ab];simp;rw[CO];refine CT _ (λs hs=>⟨s,.inl rfl,hs⟩) ?_;simp only[AA 204 1];simp[h4,h1];by_cases m1:n <0
 ·constructor
  ·refine⟨_,_,q,?_⟩;simp[h1',m1,z,AD,AX 204]
  ·refine⟨_,_,q,?_⟩;simp[m1,z,AD,AX 204]
 ·by_cases m2:(bs.length:Int) <n
  ·constructor
   ·refine⟨_,_,q,?_⟩;simp[h1',m1,m2,AD,AX 204]
   ·refine⟨_,_,q,?_⟩;simp[m1,m2,AD,AX 204]
  ·constructor
   ·refine⟨_,_,q,?_⟩;simp[h1',m1,m2,AD,AX 204]
   ·refine⟨_,_,q,?_⟩;simp[m1,m2,AD,AX 204]
theorem YY (h:List Row) (c4 c1 rr:Nat) (bs:List V) (s:RS) (hB:∀x∈s.1,0≤x∧x <256) (h4:h[c4]?=some (.cells [.ref rr 0])) (h1:h[c1]?=some (.cells [.v (.list bs)])) (hr:h[rr]?=some s.row) (hne:c1≠rr):
  FX 109 [.ref c4 0,.ref c1 0] h [.v (.int .i64 (CI bs.length s))] (h.set rr (Ad s).2.row):=by
 refine Fn 109 ?_;have q:=DW s hB h rr hr;unfold CI;generalize (Ad s).1=n at*;generalize (Ad s).2=s' at*;have h1':(h.set rr s'.row)[c1]?=some (.cells [.v (.list bs)]):=by rw[qz (Ne.symm hne)];exact h1
 have z:¬((bs.length:Int) <0):=by omega
 simp only[At 109,AE,AG,AA 109 0,Ab];simp;rw[CO];refine CT _ (λs hs=>⟨s,.inl rfl,hs⟩) ?_;simp only[AA 109 1];simp[h4,h1];by_cases m1:n <0
 ·constructor
  ·refine⟨_,_,q,?_⟩;simp[h1',m1,z,AD,AX 109]
  ·refine⟨_,_,q,?_⟩;simp[m1,z,AD,AX 109]
 ·by_cases m2:(bs.length:Int) <n
  ·constructor
   ·refine⟨_,_,q,?_⟩;simp[h1',m1,m2,AD,AX 109]
   ·refine⟨_,_,q,?_⟩;simp[m1,m2,AD,AX 109]
  ·constructor
   ·refine⟨_,_,q,?_⟩;simp[h1',m1,m2,AD,AX 109]
   ·refine⟨_,_,q,?_⟩;simp[m1,m2,AD,AX 109]
theorem Zn (h:List Row) (c:Nat) (f:Int) (b:Bool) (hc:h[c]?=some (.cells [.v (.bool b)])):FX 110 [.v (.int .i64 f),.ref c 0] h [] (h.set c (.cells [.v (.bool (b||f != 0))])):=by
 refine Fn 110 ?_;cases b<;>simp[At 110,awp,AA 110 0,AX 110,Ab,hc,AS]
end Go.Va
