/- Laws that ExtractAnswers leans on, part 14. No condition of its own. -/
import Derived.Test.YtopldfpkgbkomaaGreatDoorL09
set_option linter.all false
set_option maxRecDepth 100000
set_option maxHeartbeats 4000000
noncomputable section
namespace Go.Va
end Go.Va
namespace Go.Va
open Go.Proofs
structure Val where
 a:Int
 n:Int
 d:Int
def Val.V (x:Val):V:= .agg [.int .i64 x.a,.int .i64 x.n,.int .i64 x.d]
inductive Th where
 |mk (cs:List Int) (vs:List Val) (ps:List Th)
def Th.cs:Th→List Int| .mk c _ _=>c
def Th.vs:Th→List Val| .mk _ v _=>v
def Th.ps:Th→List Th| .mk _ _ p=>p
theorem Th.ind {p:Th→Prop} (h:∀cs vs ps,(∀k∈ps,p k)→p (.mk cs vs ps)) (f:Th):p f:=
 Th.rec (motive_1:=p) (motive_2:=λl=>∀k∈l,p k) (λcs vs ps ih=>h cs vs ps ih) (λk hk=>by cases hk)
  (λx xs hx hxs k hk=>by cases hk with|head=>exact hx|tail _ hk=>exact hxs k hk) f
mutual
def Th.V:Th→V| .mk cs vs ps=> .agg [AH .i64 cs,.list (vs.map Val.V),.list (Th.Vs ps)]
def Th.Vs:List Th→List V|[]=>[]|k::ks=>k.V::Th.Vs ks
end
theorem Th.Vs_map:∀l,Th.Vs l=l.map Th.V
 |[]=>rfl
 |k::ks=>by simp[Th.Vs,Th.Vs_map ks]
theorem Th.V_eq (cs:List Int) (vs:List Val) (ps:List Th):(Th.mk cs vs ps).V= .agg [AH .i64 cs,.list (vs.map Val.V),.list (ps.map Th.V)]:=by
 simp[Th.V,Th.Vs_map]
theorem Th.V3 (t:Th):∃cs,t.V= .agg cs∧cs.length=3:=by
 cases t;exact⟨_,Th.V_eq _ _ _,rfl⟩
def Val.ok (x:Val):Prop:=i64 x.a∧i64 x.n∧i64 x.d
inductive Th.ok:Th→Prop
 |mk {cs vs ps} (h1:cs.length≤2^30) (h2:vs.length≤2^30) (h3:ps.length≤2^30) (h4:∀x∈vs,Val.ok x) (h5:∀p∈ps,Th.ok p):Th.ok (.mk cs vs ps)
mutual
def Th.nd:Th→Int→Int→Int| .mk _ _ ps,lv,lf=>if 8 <lv∨lf <1 then -1 else Th.nds ps (lv+1) (lf-1)
def Th.nds:List Th→Int→Int→Int|[],_,lf=>lf|k::ks,lv,lf=>if k.nd lv lf <0 then -1 else Th.nds ks lv (k.nd lv lf)
end
theorem Xl:∀(t:Th) (lv lf:Int),0≤lf→t.nd lv lf≤lf:=by
 refine Th.ind λcs vs ps ih=>?_;intro lv lf h0;rw[Th.nd];split
 ·omega
 ·have:∀(l:List Th),(∀x∈l,∀(lv lf:Int),0≤lf→x.nd lv lf≤lf)→∀lv lf:Int,0≤lf→Th.nds l lv lf≤lf:=by
   intro l;induction l with
   |nil=>intro _ lv lf _;simp[Th.nds]
   |cons x xs ihx=>
    intro h lv lf h1;rw[Th.nds];split
    ·omega
    ·have a1:=h x (by simp) lv lf h1;have a2:=ihx (λy hy=>h y (by simp[hy])) lv (x.nd lv lf) (by omega);omega
  have:=this ps ih (lv+1) (lf-1) (by omega);omega
variable {k:Nat}
theorem EV {α:Type} {l:List α} {x:α} (h:l[k]?=some x):l.drop k=x::l.drop (k+1):=by
 obtain⟨h1,h2⟩:=oM.1 h;rw[qR h1,h2]
theorem kG (lv:Int) (h1:0≤lv∧lv≤8) (all:List Th) (hn:all.length≤2^30) (Q:AExit→St→Prop)
  (ih:∀p∈all,∀(lf:Int),0≤lf→lf≤2^40→PX 247 [p.V,.int .i64 (lv+1),.int .i64 lf] [.int .i64 (p.nd (lv+1) lf)]) (lf:Int) (J:List Row) (h2:0≤lf) (h3:lf≤2^40) (R:Int) (hR:Th.nds all (lv+1) lf=R)
  (hr:∀e h,R= -1→AG e 6= .v (.int .i64 (-1))→Q .ret ⟨e,h⟩) (hs:∀e h,AG e 2= .v (.int .i64 R)→Q (.exit 0) ⟨e,h⟩):
  awp Tryz.prog Ah (.loop (lG 247 0)) Q ⟨[(1,.v (.int .i64 lv)),(2,.v (.int .i64 lf)),(18,.v (.list (all.map Th.V))),(19,.v (.int .i64 all.length)),(20,.v (.int .i64 (0:Nat)))],J⟩:=by
 refine AY all.length (λk s=>∃lf J,s=⟨[(1,.v (.int .i64 lv)),(2,.v (.int .i64 lf)),(18,.v (.list (all.map Th.V))),(19,.v (.int .i64 all.length)),(20,.v (.int .i64 k))],J⟩∧0≤lf∧lf≤2^40∧Th.nds (all.drop k) (lv+1) lf=R)
  ⟨lf,J,rfl,h2,h3,hR⟩ ?_
 rintro k s hk ⟨lf,J,rfl,h2,h3,hR⟩;simp only[Zw,A8 247 0,AA 247 5];simp;by_cases hkl:k <all.length
 ·obtain⟨x,hx⟩:∃x,all[k]?=some x:=⟨_,oI hkl⟩;have hw:=Bb k;have hw2:IntKind.i64.wrap (lv+1)=lv+1:=AL;have hp:=(ih x (oK hx) lf h2 h3).fsp;have hle:=Xl x (lv+1) lf h2;rw[EV hx,Th.nds]at hR;generalize x.nd (lv+1) lf=N at*;obtain⟨cs,vs,ps⟩:=x;simp[Th.V_eq,AH]at hp;rw[if_pos (by omega),AD];simp only[AA 247 6,AA 247 7];simp[hx,Th.V_eq,hw2,AH,AO];refine⟨_,_,hp _,?_⟩;by_cases hN:N <0
  ·simp[AA 247 8,hN,AA 247 9,AB];rw[if_pos hN]at hR;exact hr _ _ hR.symm rfl
  ·rw[if_neg hN]at hR;simp[AA 247 8,hN,AA 247 10,AD,hw,hkl,hR];omega
 ·have hk2:k=all.length:=by omega
  subst hk2;rw[if_neg (by omega),AJ];refine hs _ _ ?_;simp[Th.nds]at hR;simp[hR]
theorem gl:∀(t:Th) (lv lf:Int),t.ok→0≤lv→lv≤2^40→0≤lf→lf≤2^40→PX 247 [t.V,.int .i64 lv,.int .i64 lf] [.int .i64 (t.nd lv lf)]:=by
 refine Th.ind λcs vs ps ih lv lf hok a1 a2 a3 a4=>?_;obtain⟨ok1,ok2,ok3,ok4,ok5⟩:=hok;refine BJ 247 ?_;rw[Th.nd];simp only[Zw,Ai 247,AA 247 0,AA 247 1,AX];simp[Th.V_eq];by_cases b1:8 <lv
 ·simp[b1,AA 247 2,AB,AW 247]
 ·by_cases b2:lf <1
  ·simp[b1,b2,AA 247 2,AB,AW 247]
  ·have hw:IntKind.i64.wrap (lf-1)=lf-1:=AL;simp[b1,b2,AD,AA 247 3,AA 247 4,hw];refine kG lv ⟨a1,by omega⟩ ps ok3 _ (λp hp lf h h'=>ih p hp (lv+1) lf (ok5 p hp) (by omega) (by omega) h h') (lf-1) _ (by omega) (by omega) _ rfl ?_ ?_
   ·intro e h hR h6;simp[h6,hR,AW 247]
   ·intro e h h2;simp[AA 247 11,h2,AB,AW 247]
def Pj (t:Th):Bool:=decide (0≤t.nd 1 96)
theorem jT (t:Th) (h:t.ok):PX 145 [t.V] [.bool (Pj t)]:=by
 refine BJ 145 ?_;have hp:=(gl t 1 96 h (by decide) (by decide) (by decide) (by decide)).fsp;unfold Pj;generalize t.nd 1 96=N at*;obtain⟨cs,vs,ps⟩:=t;simp only[Ai 145,AE,AF,AA 145 0,AA 145 1,AX];simp[Th.V_eq,AH]at hp ⊢;refine⟨_,_,hp _,?_⟩;simp[AB,AW 145]
def C4 (l:List Int) (m:Int) (k:Nat):Bool:=decide (l.getD k 0 <0∨m≤l.getD k 0∨(0 <k∧l.getD k 0≤l.getD (k-1) 0))
def Ee (l:List Int) (m:Int):Bool:= !(List.range l.length).any (C4 l m)
theorem Zt (l:List Int) (m:Int) (hn:l.length≤2^40):PX 250 [AH .i64 l,.int .i64 m] [.bool (Ee l m)]:=by
 refine BJ 250 ?_;simp only[Ai 250,AE,AF,AM,AA 250 0,AA 250 1,AX];simp[AH];refine Al l.length (λk=>⟨[(0,.v (AH .i64 l)),(1,.v (.int .i64 m)),(7,.v (AH .i64 l)),(8,.v (.int .i64 l.length)),(9,.v (.int .i64 k))],[]⟩) (λk=>∀j <k,C4 l m j=false) (by simp[AH]) (by omega) ?_;intro k hk hI;simp only[Zw,A8 250 0,AA 250 2];simp[AH];by_cases h1:k <l.length
 ·obtain⟨x,hx⟩:∃x,l[k]?=some x:=⟨_,oI h1⟩;have hw:=Bb k;have hb:C4 l m k=true↔(x <0∨m≤x∨(0 <k∧x≤l.getD (k-1) 0)):=by unfold C4;rw[decide_eq_true_iff];simp[List.getD,hx]
  have hf:¬(x <0∨m≤x∨(0 <k∧x≤l.getD (k-1) 0))→C4 l m k=false:=λh=>by
   cases h':C4 l m k with
   |true=>exact absurd (hb.1 h') h
   |false=>rfl
  have ret:C4 l m k=true→Ee l m=false:=λh=>by unfold Ee;rw[D3 h1 h];rfl
  have go:C4 l m k=false→∀j <k+1,C4 l m j=false:=λh j hj=>by
   rcases om j k with h'|h'
   ·exact hI j h'
   ·have:j=k:=by omega
    subst this;exact h
  rw[if_pos (by omega),AD];simp only[AA 250 3,AA 250 4];simp[hx];by_cases b1:x <0
  ·have hbt:C4 l m k=true:=hb.2 (.inl b1);simp[b1,AB,AA 250 5,AW 250,ret hbt]
  ·by_cases b2:m≤x
   ·have hbt:C4 l m k=true:=hb.2 (.inr (.inl b2));simp[b1,b2,AB,AA 250 5,AW 250,ret hbt]
   ·cases k with
    |zero=>
     have hbf:C4 l m 0=false:=hf (by omega);have hw1:IntKind.i64.wrap 1=1:=rfl;simp[hw1,b1,b2,AD,AA 250 6,h1,go hbf]
    |succ j=>
     have hw3:IntKind.i64.wrap (j:Int)=j:=AL;have hpos:(0:Int) <(j:Int)+1:=by omega
     obtain⟨y,hy⟩:∃y,l[j]?=some y:=⟨_,oI (by omega)⟩;simp only[pr,Int.cast_ofNat_Int]at hw;by_cases b3:x≤y
     ·have hbt:C4 l m (j+1)=true:=hb.2 (.inr (.inr ⟨by omega,by simp[List.getD,hy,b3]⟩));simp[b1,b2,b3,hw3,hy,AB,AA 250 5,AW 250,ret hbt]
     ·have hbf:C4 l m (j+1)=false:=hf (by simp[List.getD,hy];omega);simp[b1,b2,b3,hw3,hy,AD,AA 250 6,hw,h1];exact go hbf
 ·have hk2:k=l.length:=by omega
  subst hk2;rw[if_neg (by omega),AJ];simp[AB,AA 250 7,AW 250];unfold Ee;rw[FJ hI];rfl
def Cj (x:Val):Bool:=EA x.n x.d&&decide (x.d≤65536)
mutual
def Th.formed:Th→Bool| .mk cs vs ps=>vs.all Cj&&(Ee cs 64&&(Ee (vs.map Val.a) 32&&Th.formeds ps))
def Th.formeds:List Th→Bool|[]=>true|k::ks=>k.formed&&Th.formeds ks
end
theorem EZ:∀l,Th.formeds l=l.all Th.formed
 |[]=>rfl
 |k::ks=>by simp[Th.formeds,EZ ks]
theorem Zu (t:Th) (h:PX 146 [t.V] [.bool t.formed]):PX 249 [t.V] [.bool (!t.formed)]:=by
 refine BJ 249 ?_;have hp:=h.fsp;generalize t.formed=R at*;obtain⟨cs,vs,ps⟩:=t;simp only[Ai 249,AE,AF,AA 249 0,AA 249 1,AX];simp[Th.V_eq,AH]at hp ⊢;refine⟨_,_,hp _,?_⟩;simp[AB,AW 249]
theorem kR (cs:List Int) (vs:List Val) (ps:List Th) (hn:vs.length≤2^30) (hv:∀x∈vs,Val.ok x) (Q:AExit→St→Prop)
  (hr:∀e h,vs.all Cj=false→AG e 2= .v (.bool false)→Q .ret ⟨e,h⟩)
  (hs:∀J,vs.all Cj=true→Q (.exit 0) ⟨[(1,.ref 0 0),(3,.own 3 1 ((vs.map Val.a).map (.int .i64))),(8,.v (.list (vs.map Val.V))),(9,.v (.int .i64 vs.length)),(10,.v (.int .i64 vs.length)),(11,.v (.bool false))],
   .cells [.v (AH .i64 cs),.v (.list (vs.map Val.V)),.v (.list (ps.map Th.V))]::J⟩):
  awp Tryz.prog Ah (.loop (lG 146 0)) Q ⟨[(1,.ref 0 0),(3,.own 3 1 []),(8,.v (.list (vs.map Val.V))),(9,.v (.int .i64 vs.length)),(10,.v (.int .i64 (0:Nat)))],
   [.cells [.v (AH .i64 cs),.v (.list (vs.map Val.V)),.v (.list (ps.map Th.V))]]⟩:=by
 refine AY vs.length (λk s=>∃J,s=⟨[(1,.ref 0 0),(3,.own 3 1 (((vs.take k).map Val.a).map (.int .i64))),(8,.v (.list (vs.map Val.V))),(9,.v (.int .i64 vs.length)),(10,.v (.int .i64 k))],
   .cells [.v (AH .i64 cs),.v (.list (vs.map Val.V)),.v (.list (ps.map Th.V))]::J⟩∧(vs.take k).all Cj=true) ⟨[],by simp,rfl⟩ ?_
 rintro k s hk ⟨J,rfl,hI⟩;simp only[Zw,A8 146 0,AA 146 3];simp;by_cases hkl:k <vs.length
 ·obtain⟨x,hx⟩:∃x,vs[k]?=some x:=⟨_,oI hkl⟩;have hxm:=oK hx;have hw:=Bb k;have hok:=hv x hxm;have hp:=(Uq x.n x.d hok.2.1 hok.2.2).fsp;have hroom:AU (k+1) 8=true:=by simp[AU];omega
  have hm:min k vs.length=k:=by omega
  have ht:vs.take (k+1)=vs.take k++[x]:=by rw[oW,hx];rfl
  have hall:(vs.take (k+1)).all Cj=Cj x:=by rw[ht,List.all_append,hI];simp
  have hbad:Cj x=false→vs.all Cj=false:=λh=>by
   cases h':vs.all Cj with
   |false=>rfl
   |true=>exact absurd ((oY.1 h' x hxm).symm.trans h) (by decide)
  have hv:Cj x=(EA x.n x.d&&decide (x.d≤65536)):=rfl;rw[if_pos (by omega),AD];simp only[AA 146 4];simp[hx,Val.V,AO];simp only[AA 146 5,AA 146 6];simp[hm,hroom];simp[A0]at hp;cases h1:EA x.n x.d with
  |false=>
   simp[h1]at hp;refine⟨_,_,hp _,?_⟩;simp[AA 146 7,AB];exact hr _ _ (hbad (by rw[hv,h1];rfl)) rfl
  |true=>
   simp[h1]at hp;refine⟨_,_,hp _,?_⟩;by_cases h2:65536 <x.d
   ·simp[h2,AA 146 7,AB];exact hr _ _ (hbad (by rw[hv,h1];simp;omega)) rfl
   ·have h3:Cj x=true:=by rw[hv,h1];simp;omega
    rw[h3]at hall;simp[h2,AD,AA 146 8,hw,hkl];rw[ht]at hall;simp at hall;exact⟨by simp[oW,hx],by rw[ht];intro y hy;rcases oc.1 hy with h|h;exact hall.1 y h;rw[oS.1 h];exact hall.2⟩
 ·have hk2:k=vs.length:=by omega
  subst hk2;rw[if_neg (by omega),AJ];rw[od]at hI;have:=hs J hI;have e:List.take vs.length (List.map (V.int .i64 ∘ Val.a) vs)=List.map (V.int .i64 ∘ Val.a) vs:=o6 (by simp);simpa[e]using this
theorem jS:∀(t:Th),t.ok→PX 146 [t.V] [.bool t.formed]:=by
 refine Th.ind λcs vs ps ih hok=>?_;obtain⟨ok1,ok2,ok3,ok4,ok5⟩:=hok;refine BJ 146 ?_;have hidx:IdxR Tryz.prog Ah 249 [] (ps.map Th.V) [] (ps.findIdx? λx=> !x.formed) []:=
  IdxR.map λx hx=>(Zu x (ih x hx (ok5 x hx))).fsp []
 have hidx2:=λh=>IdxR.map (P:=Tryz.prog) (GL:=Ah) (fid:=249) (caps:=[]) (f:=Th.V) (p:=λx=> !x.formed) (l:=ps) (h:=h) λx hx=>(Zu x (ih x hx (ok5 x hx))).fsp h;have hcf:=λh=>XT (.v (.func 249 [])) 249 [] (FV.v 249 []) (ps.map Th.V) (by simp;omega) (by
  intro x hx;obtain⟨y,_,rfl⟩:=oP.1 hx;exact y.V3) (hidx2 h)
 simp only[Fa]at hcf;have q1:=(Zt cs 64 (by omega)).fsp;have q2:=(Zt (vs.map Val.a) 32 (by simp;omega)).fsp;have hl:=λQ=>kR cs vs ps ok2 ok4 Q;rw[Th.formed,EZ];generalize Ee cs 64=A at*;generalize Ee (vs.map Val.a) 32=B at*;generalize ps.all Th.formed=C at*;generalize vs.all Cj=D at*;simp only[Ai 146,AE,AF,AM,AA 146 0,AA 146 1,AA 146 2,AX];simp[Th.V_eq];refine hl _ ?_ ?_
 ·rintro e h rfl h2;simp[h2,AW 146]
 ·rintro J rfl;simp[AA 146 9];simp only[AA 146 10];simp[AH]at q1 q2 ⊢;refine⟨_,_,q1 _,?_⟩;cases A with
  |false=>simp[AB,AW 146]
  |true=>
   simp;refine⟨_,_,q2 _,?_⟩;cases B with
   |false=>simp[AB,AW 146]
   |true=>
    simp at hcf ⊢;refine⟨_,_,(hcf _),?_⟩;simp[AB,AW 146]
def Hb (t:Th):Int:=if Pj t then (if t.formed then 0 else 1) else 4
theorem dN (t:Th) (h:t.ok):PX 67 [t.V] [.int .i64 (Hb t)]:=by
 refine BJ 67 ?_;have q1:=(jT t h).fsp;have q2:=(jS t h).fsp;unfold Hb;generalize Pj t=A at*;generalize t.formed=B at*;obtain⟨cs,vs,ps⟩:=t;simp only[Zw,Ai 67,AA 67 0,AA 67 1,AX];simp[Th.V_eq,AH]at q1 q2 ⊢;refine⟨_,_,q1 _,?_⟩;cases A with
 |false=>simp[AA 67 2,AB,AW 67]
 |true=>
  simp[AA 67 3];refine⟨_,_,q2 _,?_⟩;cases B with
  |false=>simp[AA 67 4,AB,AW 67]
  |true=>simp[AD,AA 67 5,AB,AW 67]
theorem gW (x:Val) (n:Int) (h:List Row) (q:Nat) (hq:h[q]?=some (.cells [.v (.int .i64 n)])) (hl:Low h):FX 255 [.v x.V,.ref q 0] h [.v (.bool (x.a==n))] h:=by
 refine Ak (D4 255) rfl (oN _) hl (by simp[D.lt]) ?_;have hq':=AV [.cells [.v (.int .i64 x.a),.v (.int .i64 x.n),.v (.int .i64 x.d)]] hq;simp[Ai 255,awp,AA 255 0,AA 255 1,AW 255,AQ,Val.V,hq']
def Kq (t:Th) (n:Int):Option Val:=t.vs.find? λx=>x.a==n
def Fy (t:Th) (n:Int):Int×Int:=match Kq t n with|some x=>(x.n,x.d)|none=>(0,0)
theorem LQ {α:Type} (p:α→Bool) (l:List α):(l.findIdx? p=none∧l.find? p=none)∨∃i x,l.findIdx? p=some i∧l[i]?=some x∧l.find? p=some x:=by
 cases h:l.findIdx? p with
 |none=>
  refine .inl ⟨rfl,?_⟩;rw[rp];rw[qf]at h;intro x hx;simp[h x hx]
 |some i=>
  obtain⟨h1,h2,h3⟩:=qu.1 h;refine .inr ⟨i,l[i],rfl,oI h1,?_⟩;rw[List.find?_eq_some_iff_getElem];exact⟨h2,i,h1,rfl,λj hj=>by simpa using h3 j hj⟩
theorem jJ (t:Th) (n:Int) (hok:t.ok):PX 158 [t.V,.int .i64 n] [A0 (Fy t n).1 (Fy t n).2,.bool (Kq t n).isSome]:=by
 obtain⟨cs,vs,ps⟩:=t;obtain⟨ok1,ok2,ok3,ok4,ok5⟩:=hok;have e1:Kq (.mk cs vs ps) n=vs.find? λx=>x.a==n:=rfl;unfold Fy;rw[e1];refine BJ 158 ?_;have hidx:=λh (hh:h[1]?=some (.cells [.v (.int .i64 n)])) (hl:Low h)=>IdxR.map (P:=Tryz.prog) (GL:=Ah) (fid:=255) (caps:=[.ref 1 0]) (f:=Val.V) (p:=λx=>x.a==n) (l:=vs) (h:=h) λx _=>gW x n h 1 hh hl;have hcf:=λh hh hl=>gX (.func 255 [.ref 1 0]) 255 [.ref 1 0] (FV.r 255 1 0 []) (vs.map Val.V) (by simp;omega) (by
  intro x hx;obtain⟨y,_,rfl⟩:=oP.1 hx;exact⟨_,rfl,rfl⟩) (hidx h hh hl)
 have hf:=LQ (λx:Val=>x.a==n) vs;simp only[Ai 158,AE,AF,AK,AA 158 0,AA 158 1,AX];simp[Th.V_eq];generalize (vs.findIdx? λx=>x.a==n)=I at*;refine⟨_,_,(hcf _ rfl ?_),?_⟩
 ·intro row hrow;simp[AH]at hrow;rcases hrow with rfl|rfl|rfl<;>simp[Row.low,D.lts,D.lt]
 simp only[AA 158 2];rcases hf with ⟨rfl,e2⟩|⟨i,x,rfl,hx,e2⟩
 ·rw[e2];simp[DX,AA 158 3,AO,AB,AW 158,A0]
 ·rw[e2];have hi:¬(i:Int) <0:=by omega
  simp[DX,hi,AD,AA 158 4,hx,Val.V,AO,AB,AW 158,A0]
def Th.cells (t:Th):List D:=[.v (AH .i64 t.cs),.v (.list (t.vs.map Val.V)),.v (.list (t.ps.map Th.V))]
mutual
def Th.kinds (n:Int):Th→Bool| .mk cs _ ps=>(cs.all λc=> !decide (n≤c))&&Th.kindss n ps
def Th.kindss (n:Int):List Th→Bool|[]=>true|k::ks=>k.kinds n&&Th.kindss n ks
end
theorem FD (n:Int):∀l,Th.kindss n l=l.all (Th.kinds n)
 |[]=>rfl
 |k::ks=>by simp[Th.kindss,FD n ks]
theorem jO (c n:Int) (h:List Row) (q:Nat) (hq:h[q]?=some (.cells [.v (.int .i64 n)])):FX 152 [.v (.int .i64 c),.ref q 0] h [.v (.bool (decide (n≤c)))] h:=by
 refine Dh 152 ?_;simp[Ai 152,awp,AA 152 0,AA 152 1,AW 152,AQ,hq]
theorem jN (t:Th) (n:Int) (h:List Row) (q:Nat) (hq:h[q]?=some (.cells [.v (.int .i64 n)])) (hl:Low h) (hp:PX 70 [t.V,.int .i64 n] [.bool (t.kinds n)]):
  FX 154 [.v t.V,.ref q 0] h [.v (.bool (!t.kinds n))] h:=by
 refine Ak (D4 154) rfl (oN _) hl (by simp[D.lt]) ?_;have hp:=hp.fsp;generalize t.kinds n=R at*;obtain⟨cs,vs,ps⟩:=t;have hq':=AV [.cells (Th.mk cs vs ps).cells] hq;simp only[Th.cells,Th.cs,Th.vs,Th.ps]at hq';simp only[Ai 154,AE,AF,AA 154 0,AA 154 1,AQ];simp[Th.V_eq,AH]at hp hq' ⊢;simp[hq'];refine⟨_,_,hp _,?_⟩;simp[AB,AW 154]
theorem mw (n:Int):∀t:Th,t.ok→PX 70 [t.V,.int .i64 n] [.bool (t.kinds n)]:=by
 refine Th.ind λcs vs ps ih hok=>?_;obtain⟨ok1,ok2,ok3,ok4,ok5⟩:=hok;refine BJ 70 ?_;have hlow:Low [Row.cells (Th.mk cs vs ps).cells,.cells [.v (.int .i64 n)]]:=by
  intro row hrow;simp[Th.cells,AH,Th.cs,Th.vs,Th.ps]at hrow;rcases hrow with rfl|rfl<;>simp[Row.low,D.lts,D.lt]
 have hi1:IdxR Tryz.prog Ah 152 [.ref 1 0] (cs.map (.int .i64)) [.cells (Th.mk cs vs ps).cells,.cells [.v (.int .i64 n)]] (cs.findIdx? λc=> !!decide (n≤c)) [.cells (Th.mk cs vs ps).cells,.cells [.v (.int .i64 n)]]:=
  IdxR.map λx hx=>by rw[Bool.not_not];exact jO x n _ 1 rfl
 have hc1:=Ut (.func 152 [.ref 1 0]) 152 [.ref 1 0] (FV.r 152 1 0 []) (cs.map (.int .i64)) (by simp;omega) (by
  intro x hx;obtain⟨y,_,rfl⟩:=oP.1 hx;exact⟨_,rfl⟩) hi1
 have hi2:IdxR Tryz.prog Ah 154 [.ref 1 0] (ps.map Th.V) [.cells (Th.mk cs vs ps).cells,.cells [.v (.int .i64 n)]] (ps.findIdx? λc=> !c.kinds n) [.cells (Th.mk cs vs ps).cells,.cells [.v (.int .i64 n)]]:=
  IdxR.map λx hx=>jN x n _ 1 rfl hlow (ih x hx (ok5 x hx))
 have hc2:=XT (.func 154 [.ref 1 0]) 154 [.ref 1 0] (FV.r 154 1 0 []) (ps.map Th.V) (by simp;omega) (by
  intro x hx;obtain⟨y,_,rfl⟩:=oP.1 hx;exact y.V3) hi2
 rw[Fa]at hc1 hc2;rw[Th.kinds,FD];generalize (cs.all λc=> !decide (n≤c))=A at*;generalize (ps.all (Th.kinds n))=B at*;simp only[Ai 70,AE,AF,AA 70 0,AA 70 1,AX];simp[Th.V_eq,AH,Th.cells,Th.cs,Th.vs,Th.ps]at hc1 hc2 ⊢;refine⟨_,_,hc1,?_⟩;cases A with
 |false=>simp[AB,AW 70]
 |true=>
  simp;refine⟨_,_,hc2,?_⟩;simp[AB,AW 70]
theorem my (l:List Int) (hn:l.length≤2^40):PX 65 [AH .i64 l] [.int .i64 ((l.find? λx=>x != 0).getD 0)]:=by
 refine BJ 65 ?_;obtain⟨R,hR⟩:∃R,(l.find? λx=>x != 0).getD 0=R:=⟨_,rfl⟩;rw[hR];simp only[Ai 65,AE,AF,AM,AA 65 0,AA 65 1,AA 65 2,AX];simp[AH];refine Al l.length (λk=>⟨[(3,.v (.int .i64 0)),(6,.v (AH .i64 l)),(7,.v (.int .i64 l.length)),(8,.v (.int .i64 k))],[]⟩) (λk=>((l.drop k).find? λx=>x != 0).getD 0=R) (by simp[AH]) (by simpa using hR) ?_;intro k hk hI;simp only[Zw,A8 65 0,AA 65 3];simp[AH];by_cases h1:k <l.length
 ·obtain⟨x,hx⟩:∃x,l[k]?=some x:=⟨_,oI h1⟩;have hw:=Bb k;rw[EV hx]at hI;rw[if_pos (by omega),AD];simp only[AA 65 4,AA 65 5];simp[hx];by_cases b1:x=0
  ·subst b1;simp at hI;simp[AD,AA 65 7,hw,h1,hI]
  ·simp[b1]at hI;subst hI;simp[b1,AA 65 6,AB,AW 65]
 ·have hk2:k=l.length:=by omega
  subst hk2;simp at hI;rw[if_neg (by omega),AJ];simp[AB,AA 65 8,AW 65,hI]
def Gc (a b c d:Int):Int:=if EA a b&&EA c d then Ot a b c d else 0
theorem Ze (a b c d:Int) (h1:i64 a) (h2:i64 b) (h3:i64 c) (h4:i64 d):PX 310 [A0 a b,A0 c d] [.int .i64 (Gc a b c d)]:=by
 refine BJ 310 ?_;have q:=(Zz a b c d h1 h2 h3 h4).fsp;unfold Gc;cases hk:EA a b&&EA c d with
 |true=>
  rw[hk]at q;simp[A0]at q;simp[Ai 310,awp,AA 310 0,AA 310 1,AA 310 2,AW 310,AX,A0];refine⟨_,_,q _,?_⟩;simp
 |false=>
  rw[hk]at q;simp[A0]at q;simp[Ai 310,awp,AA 310 0,AA 310 1,AA 310 2,AW 310,AX,A0];refine⟨_,_,q _,?_⟩;simp
def Hx (x:Ivl) (n d:Int):Bool:=
 (x.li|| !(decide (Gc n d x.ln x.ld <0)||(decide (Gc n d x.ln x.ld=0)&&x.lo)))&&(x.hi|| !(decide (0 <Gc n d x.hn x.hd)||(decide (Gc n d x.hn x.hd=0)&&x.ho)))
theorem gT (x:Ivl) (hx:x.ok) (n d:Int) (h1:i64 n) (h2:i64 d):PX 259 [x.V,A0 n d] [.bool (Hx x n d)]:=by
 refine BJ 259 ?_;have q1:=(Ze n d x.ln x.ld h1 h2 hx.1 hx.2.1).fsp;have q2:=(Ze n d x.hn x.hd h1 h2 hx.2.2.1 hx.2.2.2).fsp;obtain⟨R,hR⟩:∃R,Hx x n d=R:=⟨_,rfl⟩;rw[hR];unfold Hx at hR;generalize Gc n d x.ln x.ld=a at*;generalize Gc n d x.hn x.hd=b at*;obtain⟨ln,ld,hn,hd,lo,ho,li,hi⟩:=x;simp only at hR q1 q2;simp[A0]at q1 q2;simp only[Ai 259,AE,AF,AK,AA 259 0,AA 259 1,AA 259 2,AX];simp[Ivl.V,A0];cases li with
 |true=>
  simp[AD];simp only[AA 259 6];simp;cases hi with
  |true=>simp[AA 259 10,AB,AW 259,CR]at hR ⊢;exact hR
  |false=>
   simp;simp only[AA 259 7];simp;refine⟨_,_,q2 _,?_⟩;simp only[AA 259 8];by_cases b1:0 <b
   ·simp[b1,AA 259 9,AB,AW 259,CR]at hR ⊢;exact hR
   ·by_cases b2:b=0
    ·subst b2;cases ho<;>(simp[AA 259 9,AA 259 10,AB,AW 259,CR]at hR ⊢;exact hR)
    ·simp[b1,b2,AA 259 10,AB,AW 259,CR]at hR ⊢;exact hR
 |false=>
  simp;simp only[AA 259 3];simp;refine⟨_,_,q1 _,?_⟩;simp only[AA 259 4];by_cases a1:a <0
  ·simp[a1,AA 259 5,AB,AW 259,CR]at hR ⊢;exact hR
  ·by_cases a2:a=0∧lo=true
   ·obtain⟨rfl,rfl⟩:=a2;simp[AA 259 5,AB,AW 259,CR]at hR ⊢;exact hR
   ·have go:(decide (a <0)||decide (a=0)&&lo)=false:=by
     rw[decide_eq_false a1];by_cases a3:a=0
     ·have:lo=false:=by cases lo;rfl;exact absurd ⟨a3,rfl⟩ a2
      simp[this]
     ·simp[a3]
    rw[go]at hR;by_cases a3:a=0
    ·have hlo:lo=false:=by cases lo;rfl;exact absurd ⟨a3,rfl⟩ a2
     subst a3;subst hlo;simp[AD];simp only[AA 259 6];simp;cases hi with
     |true=>simp[AA 259 10,AB,AW 259,CR]at hR ⊢;exact hR
     |false=>
      simp;simp only[AA 259 7];simp;refine⟨_,_,q2 _,?_⟩;simp only[AA 259 8];by_cases b1:0 <b
      ·simp[b1,AA 259 9,AB,AW 259,CR]at hR ⊢;exact hR
      ·by_cases b2:b=0
       ·subst b2;cases ho<;>(simp[AA 259 9,AA 259 10,AB,AW 259,CR]at hR ⊢;exact hR)
       ·simp[b1,b2,AA 259 10,AB,AW 259,CR]at hR ⊢;exact hR
    ·simp[a1,a3,AD];simp only[AA 259 6];simp;cases hi with
     |true=>simp[AA 259 10,AB,AW 259,CR]at hR ⊢;exact hR
     |false=>
      simp;simp only[AA 259 7];simp;refine⟨_,_,q2 _,?_⟩;simp only[AA 259 8];by_cases b1:0 <b
      ·simp[b1,AA 259 9,AB,AW 259,CR]at hR ⊢;exact hR
      ·by_cases b2:b=0
       ·subst b2;cases ho<;>(simp[AA 259 9,AA 259 10,AB,AW 259,CR]at hR ⊢;exact hR)
       ·simp[b1,b2,AA 259 10,AB,AW 259,CR]at hR ⊢;exact hR
theorem gU (x:Ivl) (hx:x.ok) (n d:Int) (h1:i64 n) (h2:i64 d) (h:List Row) (q:Nat) (hq:h[q]?=some (.cells [.v (.int .i64 n),.v (.int .i64 d)])) (hl:Low h):
  FX 257 [.v x.V,.ref q 0] h [.v (.bool (Dv x&&Hx x n d))] h:=by
 refine Ak (D4 257) rfl (oN _) hl (by simp[D.lt]) ?_;have hq':=AV [.cells [.v (.int .i64 x.ln),.v (.int .i64 x.ld),.v (.int .i64 x.hn),.v (.int .i64 x.hd),.v (.bool x.lo),.v (.bool x.ho),.v (.bool x.li),.v (.bool x.hi)]] hq;have q1:=(Zr x hx).fsp;have q2:=(gT x hx n d h1 h2).fsp;generalize Dv x=G at*;generalize Hx x n d=R at*;simp[Ivl.V,A0]at q1 q2;simp only[Ai 257,AE,AF,AA 257 0,AA 257 1,AQ];simp[Ivl.V];refine⟨_,_,q1 _,?_⟩;cases G with
 |false=>simp[AB,AW 257]
 |true=>
  simp[hq'];refine⟨_,_,q2 _,?_⟩;simp[AB,AW 257]
def Pn (l:List Ivl) (n d:Int):Bool:=EA n d&&l.any λx=>Dv x&&Hx x n d
theorem jI (l:List Ivl) (hl:∀x∈l,x.ok) (hn:l.length <2^40) (n d:Int) (h1:i64 n) (h2:i64 d):PX 159 [.list (l.map Ivl.V),A0 n d] [.bool (Pn l n d)]:=by
 refine BJ 159 ?_;have q1:=(Uq n d h1 h2).fsp;have hidx:IdxR Tryz.prog Ah 257 [.ref 0 0] (l.map Ivl.V) [.cells [.v (.int .i64 n),.v (.int .i64 d)]] (l.findIdx? λx=>Dv x&&Hx x n d) [.cells [.v (.int .i64 n),.v (.int .i64 d)]]:=
  IdxR.map λx hx=>gU x (hl x hx) n d h1 h2 _ 0 rfl (by
   intro row hrow;simp only[oS]at hrow;subst hrow;rfl)
 have hcf:=gV (.func 257 [.ref 0 0]) 257 [.ref 0 0] (FV.r 257 0 0 []) (l.map Ivl.V) (by simpa using hn) (by
  intro x hx;obtain⟨y,_,rfl⟩:=oP.1 hx;exact⟨_,rfl,rfl⟩) hidx
 rw[Cl]at hcf;unfold Pn;generalize EA n d=O at*;generalize (l.any λx=>Dv x&&Hx x n d)=R at*;simp[A0]at q1 hcf;simp only[Ai 159,AE,AF,AA 159 0,AA 159 1,AX];simp[A0];cases O with
 |false=>
  simp at q1;refine⟨_,_,q1 _,?_⟩;simp[AB,AW 159,CR]
 |true=>
  simp at q1;refine⟨_,_,q1 _,?_⟩;simp;refine⟨_,_,hcf,?_⟩;simp[AB,AW 159,CR]
end Go.Va
