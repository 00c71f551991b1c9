/- Laws that ExtractBytes leans on, part 16. No condition of its own. -/
import Derived.Test.YtopldfpkgbkomaaGreatDoorL14
import Derived.Test.YtopldfpkgbkomaaGreatDoorL15
set_option linter.all false
set_option maxRecDepth 100000
set_option maxHeartbeats 4000000
noncomputable section
namespace Go.Va
end Go.Va
namespace Go.Va
open Go.Proofs
structure Val where
 a:Int
 n:Int
 d:Int
def Val.V (x:Val):V:= .agg [.int .i64 x.a,.int .i64 x.n,.int .i64 x.d]
inductive Th where
 |mk (cs:List Int) (vs:List Val) (ps:List Th)
def Th.cs:Th→List Int| .mk c _ _=>c
def Th.vs:Th→List Val| .mk _ v _=>v
def Th.ps:Th→List Th| .mk _ _ p=>p
theorem Th.ind {p:Th→Prop} (h:∀cs vs ps,(∀k∈ps,p k)→p (.mk cs vs ps)) (f:Th):p f:=
 Th.rec (motive_1:=p) (motive_2:=λl=>∀k∈l,p k) (λcs vs ps ih=>h cs vs ps ih) (λk hk=>by cases hk)
  (λx xs hx hxs k hk=>by cases hk with|head=>exact hx|tail _ hk=>exact hxs k hk) f
mutual
def Th.V:Th→V| .mk cs vs ps=> .agg [AH .i64 cs,.list (vs.map Val.V),.list (Th.Vs ps)]
def Th.Vs:List Th→List V|[]=>[]|k::ks=>k.V::Th.Vs ks
end
theorem Th.Vs_map:∀l,Th.Vs l=l.map Th.V
 |[]=>rfl
 |k::ks=>by simp[Th.Vs,Th.Vs_map ks]
theorem Th.V_eq (cs:List Int) (vs:List Val) (ps:List Th):(Th.mk cs vs ps).V= .agg [AH .i64 cs,.list (vs.map Val.V),.list (ps.map Th.V)]:=by
 simp[Th.V,Th.Vs_map]
theorem Th.V3 (t:Th):∃cs,t.V= .agg cs∧cs.length=3:=by
 cases t;exact⟨_,Th.V_eq _ _ _,rfl⟩
def Val.ok (x:Val):Prop:=i64 x.a∧i64 x.n∧i64 x.d
inductive Th.ok:Th→Prop
 |mk {cs vs ps} (h1:cs.length≤2^30) (h2:vs.length≤2^30) (h3:ps.length≤2^30) (h4:∀x∈vs,Val.ok x) (h5:∀p∈ps,Th.ok p):Th.ok (.mk cs vs ps)
mutual
def Th.nd:Th→Int→Int→Int| .mk _ _ ps,lv,lf=>if 8 <lv∨lf <1 then -1 else Th.nds ps (lv+1) (lf-1)
def Th.nds:List Th→Int→Int→Int|[],_,lf=>lf|k::ks,lv,lf=>if k.nd lv lf <0 then -1 else Th.nds ks lv (k.nd lv lf)
end
theorem Zv:∀(t:Th) (lv lf:Int),0≤lf→t.nd lv lf≤lf:=by
 refine Th.ind λcs vs ps ih=>?_;intro lv lf h0;rw[Th.nd];split
 ·omega
 ·have:∀(l:List Th),(∀x∈l,∀(lv lf:Int),0≤lf→x.nd lv lf≤lf)→∀lv lf:Int,0≤lf→Th.nds l lv lf≤lf:=by
   intro l;induction l with
   |nil=>intro _ lv lf _;simp[Th.nds]
   |cons x xs ihx=>
    intro h lv lf h1;rw[Th.nds];split
    ·omega
    ·have a1:=h x (by simp) lv lf h1;have a2:=ihx (λy hy=>h y (by simp[hy])) lv (x.nd lv lf) (by omega);omega
  have:=this ps ih (lv+1) (lf-1) (by omega);omega
variable {k:Nat}
theorem If {α:Type} {l:List α} {x:α} (h:l[k]?=some x):l.drop k=x::l.drop (k+1):=by
 obtain⟨h1,h2⟩:=qK.1 h;rw[tu h1,h2]
theorem mw (lv:Int) (h1:0≤lv∧lv≤8) (all:List Th) (hn:all.length≤2^30) (Q:AExit→St→Prop)
  (ih:∀p∈all,∀(lf:Int),0≤lf→lf≤2^40→PX 247 [p.V,.int .i64 (lv+1),.int .i64 lf] [.int .i64 (p.nd (lv+1) lf)]) (lf:Int) (J:List Row) (h2:0≤lf) (h3:lf≤2^40) (R:Int) (hR:Th.nds all (lv+1) lf=R)
  (hr:∀e h,R= -1→AF e 6= .v (.int .i64 (-1))→Q .ret ⟨e,h⟩) (hs:∀e h,AF e 2= .v (.int .i64 R)→Q (.exit 0) ⟨e,h⟩):
  awp Tryz.prog An (.loop (lG 247 0)) Q ⟨[(1,.v (.int .i64 lv)),(2,.v (.int .i64 lf)),(18,.v (.list (all.map Th.V))),(19,.v (.int .i64 all.length)),(20,.v (.int .i64 (0:Nat)))],J⟩:=by
 refine Al all.length (λk s=>∃lf J,s=⟨[(1,.v (.int .i64 lv)),(2,.v (.int .i64 lf)),(18,.v (.list (all.map Th.V))),(19,.v (.int .i64 all.length)),(20,.v (.int .i64 k))],J⟩∧0≤lf∧lf≤2^40∧Th.nds (all.drop k) (lv+1) lf=R)
  ⟨lf,J,rfl,h2,h3,hR⟩ ?_
 rintro k s hk ⟨lf,J,rfl,h2,h3,hR⟩;simp only[Zw,BA 247 0,AA 247 5];simp;by_cases hkl:k <all.length
 ·obtain⟨x,hx⟩:∃x,all[k]?=some x:=⟨_,qH hkl⟩;have hw:=Bo k;have hw2:IntKind.i64.wrap (lv+1)=lv+1:=AQ;have hp:=(ih x (qJ hx) lf h2 h3).fsp;have hle:=Zv x (lv+1) lf h2;rw[If hx,Th.nds]at hR;generalize x.nd (lv+1) lf=N at*;obtain⟨cs,vs,ps⟩:=x;simp[Th.V_eq,AH]at hp;rw[if_pos (by omega),AB];simp only[AA 247 6,AA 247 7];simp[hx,Th.V_eq,hw2,AH,AS];refine⟨_,_,hp _,?_⟩;by_cases hN:N <0
  ·simp[AA 247 8,hN,AA 247 9,AD];rw[if_pos hN]at hR;exact hr _ _ hR.symm rfl
  ·rw[if_neg hN]at hR;simp[AA 247 8,hN,AA 247 10,AB,hw,hkl,hR];omega
 ·have hk2:k=all.length:=by omega
  subst hk2;rw[if_neg (by omega),AJ];refine hs _ _ ?_;simp[Th.nds]at hR;simp[hR]
theorem kT:∀(t:Th) (lv lf:Int),t.ok→0≤lv→lv≤2^40→0≤lf→lf≤2^40→PX 247 [t.V,.int .i64 lv,.int .i64 lf] [.int .i64 (t.nd lv lf)]:=by
 refine Th.ind λcs vs ps ih lv lf hok a1 a2 a3 a4=>?_;obtain⟨ok1,ok2,ok3,ok4,ok5⟩:=hok;refine BU 247 ?_;rw[Th.nd];simp only[Zw,At 247,AA 247 0,AA 247 1,AV];simp[Th.V_eq];by_cases b1:8 <lv
 ·simp[b1,AA 247 2,AD,AX 247]
 ·by_cases b2:lf <1
  ·simp[b1,b2,AA 247 2,AD,AX 247]
  ·have hw:IntKind.i64.wrap (lf-1)=lf-1:=AQ;simp[b1,b2,AB,AA 247 3,AA 247 4,hw];refine mw lv ⟨a1,by omega⟩ ps ok3 _ (λp hp lf h h'=>ih p hp (lv+1) lf (ok5 p hp) (by omega) (by omega) h h') (lf-1) _ (by omega) (by omega) _ rfl ?_ ?_
   ·intro e h hR h6;simp[h6,hR,AX 247]
   ·intro e h h2;simp[AA 247 11,h2,AD,AX 247]
def Qr (t:Th):Bool:=decide (0≤t.nd 1 96)
theorem l0 (t:Th) (h:t.ok):PX 145 [t.V] [.bool (Qr t)]:=by
 refine BU 145 ?_;have hp:=(kT t 1 96 h (by decide) (by decide) (by decide) (by decide)).fsp;unfold Qr;generalize t.nd 1 96=N at*;obtain⟨cs,vs,ps⟩:=t;simp only[At 145,AE,AG,AA 145 0,AA 145 1,AV];simp[Th.V_eq,AH]at hp ⊢;refine⟨_,_,hp _,?_⟩;simp[AD,AX 145]
def DA (l:List Int) (m:Int) (k:Nat):Bool:=decide (l.getD k 0 <0∨m≤l.getD k 0∨(0 <k∧l.getD k 0≤l.getD (k-1) 0))
def Ec (l:List Int) (m:Int):Bool:= !(List.range l.length).any (DA l m)
theorem dY (l:List Int) (m:Int) (hn:l.length≤2^40):PX 250 [AH .i64 l,.int .i64 m] [.bool (Ec l m)]:=by
 refine BU 250 ?_;simp only[At 250,AE,AG,AU,AA 250 0,AA 250 1,AV];simp[AH];refine Ao l.length (λk=>⟨[(0,.v (AH .i64 l)),(1,.v (.int .i64 m)),(7,.v (AH .i64 l)),(8,.v (.int .i64 l.length)),(9,.v (.int .i64 k))],[]⟩) (λk=>∀j <k,DA l m j=false) (by simp[AH]) (by omega) ?_;intro k hk hI;simp only[Zw,BA 250 0,AA 250 2];simp[AH];by_cases h1:k <l.length
 ·obtain⟨x,hx⟩:∃x,l[k]?=some x:=⟨_,qH h1⟩;have hw:=Bo k;have hb:DA l m k=true↔(x <0∨m≤x∨(0 <k∧x≤l.getD (k-1) 0)):=by unfold DA;rw[decide_eq_true_iff];simp[List.getD,hx]
  have hf:¬(x <0∨m≤x∨(0 <k∧x≤l.getD (k-1) 0))→DA l m k=false:=λh=>by
   cases h':DA l m k with
   |true=>exact absurd (hb.1 h') h
   |false=>rfl
  have ret:DA l m k=true→Ec l m=false:=λh=>by unfold Ec;rw[ER h1 h];rfl
  have go:DA l m k=false→∀j <k+1,DA l m j=false:=λh j hj=>by
   rcases qi j k with h'|h'
   ·exact hI j h'
   ·have:j=k:=by omega
    subst this;exact h
  rw[if_pos (by omega),AB];simp only[AA 250 3,AA 250 4];simp[hx];by_cases b1:x <0
  ·have hbt:DA l m k=true:=hb.2 (.inl b1);simp[b1,AD,AA 250 5,AX 250,ret hbt]
  ·by_cases b2:m≤x
   ·have hbt:DA l m k=true:=hb.2 (.inr (.inl b2));simp[b1,b2,AD,AA 250 5,AX 250,ret hbt]
   ·cases k with
    |zero=>
     have hbf:DA l m 0=false:=hf (by omega);have hw1:IntKind.i64.wrap 1=1:=rfl;simp[hw1,b1,b2,AB,AA 250 6,h1,go hbf]
    |succ j=>
     have hw3:IntKind.i64.wrap (j:Int)=j:=AQ;have hpos:(0:Int) <(j:Int)+1:=by omega
     obtain⟨y,hy⟩:∃y,l[j]?=some y:=⟨_,qH (by omega)⟩;simp only[rQ,Int.cast_ofNat_Int]at hw;by_cases b3:x≤y
     ·have hbt:DA l m (j+1)=true:=hb.2 (.inr (.inr ⟨by omega,by simp[List.getD,hy,b3]⟩));simp[b1,b2,b3,hw3,hy,AD,AA 250 5,AX 250,ret hbt]
     ·have hbf:DA l m (j+1)=false:=hf (by simp[List.getD,hy];omega);simp[b1,b2,b3,hw3,hy,AB,AA 250 6,hw,h1];exact go hbf
 ·have hk2:k=l.length:=by omega
  subst hk2;rw[if_neg (by omega),AJ];simp[AD,AA 250 7,AX 250];unfold Ec;rw[Fi hI];rfl
def DC (x:Val):Bool:=En x.n x.d&&decide (x.d≤65536)
mutual
def Th.formed:Th→Bool| .mk cs vs ps=>vs.all DC&&(Ec cs 64&&(Ec (vs.map Val.a) 32&&Th.formeds ps))
def Th.formeds:List Th→Bool|[]=>true|k::ks=>k.formed&&Th.formeds ks
end
theorem Er:∀l,Th.formeds l=l.all Th.formed
 |[]=>rfl
 |k::ks=>by simp[Th.formeds,Er ks]
theorem dZ (t:Th) (h:PX 146 [t.V] [.bool t.formed]):PX 249 [t.V] [.bool (!t.formed)]:=by
 refine BU 249 ?_;have hp:=h.fsp;generalize t.formed=R at*;obtain⟨cs,vs,ps⟩:=t;simp only[At 249,AE,AG,AA 249 0,AA 249 1,AV];simp[Th.V_eq,AH]at hp ⊢;refine⟨_,_,hp _,?_⟩;simp[AD,AX 249]
theorem nF (cs:List Int) (vs:List Val) (ps:List Th) (hn:vs.length≤2^30) (hv:∀x∈vs,Val.ok x) (Q:AExit→St→Prop)
  (hr:∀e h,vs.all DC=false→AF e 2= .v (.bool false)→Q .ret ⟨e,h⟩)
  (hs:∀J,vs.all DC=true→Q (.exit 0) ⟨[(1,.ref 0 0),(3,.own 3 1 ((vs.map Val.a).map (.int .i64))),(8,.v (.list (vs.map Val.V))),(9,.v (.int .i64 vs.length)),(10,.v (.int .i64 vs.length)),(11,.v (.bool false))],
   .cells [.v (AH .i64 cs),.v (.list (vs.map Val.V)),.v (.list (ps.map Th.V))]::J⟩):
  awp Tryz.prog An (.loop (lG 146 0)) Q ⟨[(1,.ref 0 0),(3,.own 3 1 []),(8,.v (.list (vs.map Val.V))),(9,.v (.int .i64 vs.length)),(10,.v (.int .i64 (0:Nat)))],
   [.cells [.v (AH .i64 cs),.v (.list (vs.map Val.V)),.v (.list (ps.map Th.V))]]⟩:=by
 refine Al vs.length (λk s=>∃J,s=⟨[(1,.ref 0 0),(3,.own 3 1 (((vs.take k).map Val.a).map (.int .i64))),(8,.v (.list (vs.map Val.V))),(9,.v (.int .i64 vs.length)),(10,.v (.int .i64 k))],
   .cells [.v (AH .i64 cs),.v (.list (vs.map Val.V)),.v (.list (ps.map Th.V))]::J⟩∧(vs.take k).all DC=true) ⟨[],by simp,rfl⟩ ?_
 rintro k s hk ⟨J,rfl,hI⟩;simp only[Zw,BA 146 0,AA 146 3];simp;by_cases hkl:k <vs.length
 ·obtain⟨x,hx⟩:∃x,vs[k]?=some x:=⟨_,qH hkl⟩;have hxm:=qJ hx;have hw:=Bo k;have hok:=hv x hxm;have hp:=(Zi x.n x.d hok.2.1 hok.2.2).fsp;have hroom:AK (k+1) 8=true:=by simp[AK];omega
  have hm:min k vs.length=k:=by omega
  have ht:vs.take (k+1)=vs.take k++[x]:=by rw[qc,hx];rfl
  have hall:(vs.take (k+1)).all DC=DC x:=by rw[ht,List.all_append,hI];simp
  have hbad:DC x=false→vs.all DC=false:=λh=>by
   cases h':vs.all DC with
   |false=>rfl
   |true=>exact absurd ((qV.1 h' x hxm).symm.trans h) (by decide)
  have hv:DC x=(En x.n x.d&&decide (x.d≤65536)):=rfl;rw[if_pos (by omega),AB];simp only[AA 146 4];simp[hx,Val.V,AS];simp only[AA 146 5,AA 146 6];simp[hm,hroom];simp[BL]at hp;cases h1:En x.n x.d with
  |false=>
   simp[h1]at hp;refine⟨_,_,hp _,?_⟩;simp[AA 146 7,AD];exact hr _ _ (hbad (by rw[hv,h1];rfl)) rfl
  |true=>
   simp[h1]at hp;refine⟨_,_,hp _,?_⟩;by_cases h2:65536 <x.d
   ·simp[h2,AA 146 7,AD];exact hr _ _ (hbad (by rw[hv,h1];simp;omega)) rfl
   ·have h3:DC x=true:=by rw[hv,h1];simp;omega
    rw[h3]at hall;simp[h2,AB,AA 146 8,hw,hkl];rw[ht]at hall;simp at hall;exact⟨by simp[qc,hx],by rw[ht];intro y hy;rcases qW.1 hy with h|h;exact hall.1 y h;rw[qO.1 h];exact hall.2⟩
 ·have hk2:k=vs.length:=by omega
  subst hk2;rw[if_neg (by omega),AJ];rw[qm]at hI;have:=hs J hI;have e:List.take vs.length (List.map (V.int .i64 ∘ Val.a) vs)=List.map (V.int .i64 ∘ Val.a) vs:=qw (by simp);simpa[e]using this
theorem lz:∀(t:Th),t.ok→PX 146 [t.V] [.bool t.formed]:=by
 refine Th.ind λcs vs ps ih hok=>?_;obtain⟨ok1,ok2,ok3,ok4,ok5⟩:=hok;refine BU 146 ?_;have hidx:IdxR Tryz.prog An 249 [] (ps.map Th.V) [] (ps.findIdx? λx=> !x.formed) []:=
  IdxR.map λx hx=>(dZ x (ih x hx (ok5 x hx))).fsp []
 have hidx2:=λh=>IdxR.map (P:=Tryz.prog) (GL:=An) (fid:=249) (caps:=[]) (f:=Th.V) (p:=λx=> !x.formed) (l:=ps) (h:=h) λx hx=>(dZ x (ih x hx (ok5 x hx))).fsp h;have hcf:=λh=>lj (.v (.func 249 [])) 249 [] (FV.v 249 []) (ps.map Th.V) (by simp;omega) (by
  intro x hx;obtain⟨y,_,rfl⟩:=qX.1 hx;exact y.V3) (hidx2 h)
 simp only[Jm]at hcf;have q1:=(dY cs 64 (by omega)).fsp;have q2:=(dY (vs.map Val.a) 32 (by simp;omega)).fsp;have hl:=λQ=>nF cs vs ps ok2 ok4 Q;rw[Th.formed,Er];generalize Ec cs 64=A at*;generalize Ec (vs.map Val.a) 32=B at*;generalize ps.all Th.formed=C at*;generalize vs.all DC=D at*;simp only[At 146,AE,AG,AU,AA 146 0,AA 146 1,AA 146 2,AV];simp[Th.V_eq];refine hl _ ?_ ?_
 ·rintro e h rfl h2;simp[h2,AX 146]
 ·rintro J rfl;simp[AA 146 9];simp only[AA 146 10];simp[AH]at q1 q2 ⊢;refine⟨_,_,q1 _,?_⟩;cases A with
  |false=>simp[AD,AX 146]
  |true=>
   simp;refine⟨_,_,q2 _,?_⟩;cases B with
   |false=>simp[AD,AX 146]
   |true=>
    simp at hcf ⊢;refine⟨_,_,(hcf _),?_⟩;simp[AD,AX 146]
def F5 (t:Th):Int:=if Qr t then (if t.formed then 0 else 1) else 4
theorem oO (t:Th) (h:t.ok):PX 67 [t.V] [.int .i64 (F5 t)]:=by
 refine BU 67 ?_;have q1:=(l0 t h).fsp;have q2:=(lz t h).fsp;unfold F5;generalize Qr t=A at*;generalize t.formed=B at*;obtain⟨cs,vs,ps⟩:=t;simp only[Zw,At 67,AA 67 0,AA 67 1,AV];simp[Th.V_eq,AH]at q1 q2 ⊢;refine⟨_,_,q1 _,?_⟩;cases A with
 |false=>simp[AA 67 2,AD,AX 67]
 |true=>
  simp[AA 67 3];refine⟨_,_,q2 _,?_⟩;cases B with
  |false=>simp[AA 67 4,AD,AX 67]
  |true=>simp[AB,AA 67 5,AD,AX 67]
def QS (t:Th) (n:Int):Option Val:=t.vs.find? λx=>x.a==n
def MP (t:Th) (n:Int):Int×Int:=match QS t n with|some x=>(x.n,x.d)|none=>(0,0)
def Th.cells (t:Th):List D:=[.v (AH .i64 t.cs),.v (.list (t.vs.map Val.V)),.v (.list (t.ps.map Th.V))]
mutual
def Th.kinds (n:Int):Th→Bool| .mk cs _ ps=>(cs.all λc=> !decide (n≤c))&&Th.kindss n ps
def Th.kindss (n:Int):List Th→Bool|[]=>true|k::ks=>k.kinds n&&Th.kindss n ks
end
theorem Gn (n:Int):∀l,Th.kindss n l=l.all (Th.kinds n)
 |[]=>rfl
 |k::ks=>by simp[Th.kindss,Gn n ks]
def Ki (a b c d:Int):Int:=if En a b&&En c d then P0 a b c d else 0
def N5 (x:Ivl) (n d:Int):Bool:=
 (x.li|| !(decide (Ki n d x.ln x.ld <0)||(decide (Ki n d x.ln x.ld=0)&&x.lo)))&&(x.hi|| !(decide (0 <Ki n d x.hn x.hd)||(decide (Ki n d x.hn x.hd=0)&&x.ho)))
def U7 (l:List Ivl) (n d:Int):Bool:=En n d&&l.any λx=>FY x&&N5 x n d
theorem CU (a n:Int) (ha:i64 a):0≤Aj a n:=by
 unfold Aj;unfold i64 at ha;split
 ·have e1:IntKind.i64.wrap (a+1)=a+1:=AQ;have e2:IntKind.i64.wrap (0-(a+1))=0-(a+1):=AQ;rw[e1,e2];exact t9 _ (by omega)
 ·exact t9 _ (by omega)
theorem O6 (l:List Int) (hl:∀n∈l,i64 n) (i n:Int):0≤Ai l i n:=by
 unfold Ai;split
 ·omega
 ·split
  ·rename_i x hx;exact CU x n (hl x (qJ hx))
  ·omega
def KH (k:Int):List Int:=((List.range 6).filter λc=>(k.fdiv (2^(min c IntKind.i64.bits))).tmod 3==1).map λ(c:Nat)=>(c:Int)
def Oa:List (Int×Int):=[(0,1),(1,1),(1,2),(3,2),(2,1),(-1,1),(5,1),(7,3)]
def Na (l:List Int) (at_ i:Nat):Option Val:=
 let k:=Ai l ((at_+i:Nat):Int) 1048576
 if k.tmod 3=0 then (let r:=(Oa[(((IntKind.i64.wrap (k.tdiv 3)).tmod 8).toNat)]?).getD (0,1);some ⟨i,r.1,r.2⟩) else none
def Dp (l:List Int) (at_ n:Nat):List Val:=(List.range n).filterMap (Na l at_)
def DN (f:Nat→Th×Nat) (len:Nat):Nat→Nat→List Th×Nat
 |0,at_=>([],at_)
 |n+1,at_=>if at_ <len then ((f at_).1::(DN f len n (f at_).2).1,(DN f len n (f at_).2).2) else ([],at_)
def HO (l:List Int):Nat→Nat→Th×Nat
 |0,at_=>(.mk (KH (Ai l at_ 1048576)) (Dp l (at_+1) 3) [],at_+5)
 |d+1,at_=>(.mk (KH (Ai l at_ 1048576)) (Dp l (at_+1) 3) (DN (HO l d) l.length (Ai l ((at_+4:Nat):Int) 4).toNat (at_+5)).1,(DN (HO l d) l.length (Ai l ((at_+4:Nat):Int) 4).toNat (at_+5)).2)
theorem Gi (f:Nat→Th×Nat) (len:Nat):∀n at_,(DN f len n at_).1.length≤n
 |0,at_=>by simp[DN]
 |n+1,at_=>by
  rw[DN];split
  ·have:=Gi f len n (f at_).2;simp;omega
  ·simp
theorem M0 (f:Nat→Th×Nat) (len B:Nat) (hf:∀a,(f a).2≤a+B):∀n at_,(DN f len n at_).2≤at_+n*B
 |0,at_=>by simp[DN]
 |n+1,at_=>by
  rw[DN];split
  ·have h1:=M0 f len B hf n (f at_).2;have h2:=hf at_;rw[tA];simp only;omega
  ·simp
theorem Gj (f:Nat→Th×Nat) (len:Nat) (p:Th→Prop) (hf:∀a,p (f a).1):∀n at_,∀x∈(DN f len n at_).1,p x
 |0,at_,x,hx=>by simp[DN]at hx
 |n+1,at_,x,hx=>by
  rw[DN]at hx;split at hx
  ·rcases qL.1 hx with rfl|hx
   ·exact hf at_
   ·exact Gj f len p hf n _ x hx
  ·cases hx
theorem PP (l:List Int) (i:Int):(Ai l i 4).toNat≤3:=by
 have:=El l i 4 (by decide);omega
theorem Tu (l:List Int):∀d at_,(HO l d at_).2≤at_+5*4^d
 |0,at_=>by simp[HO]
 |d+1,at_=>by
  have h:=M0 (HO l d) l.length _ (Tu l d) (Ai l ((at_+4:Nat):Int) 4).toNat (at_+5);have h2:=PP l ((at_+4:Nat):Int);have h3:(Ai l ((at_+4:Nat):Int) 4).toNat*(5*4^d)≤3*(5*4^d):=sf _ h2;have h4:1≤4^d:=Nat.one_le_pow _ _ (by decide);rw[HO,Nat.pow_succ];simp only;omega
theorem WP:∀r∈Oa,(En r.1 r.2&&decide (r.2≤65536))=true∧(-9223372036854775808≤r.1∧r.1 <9223372036854775808)∧ -9223372036854775808≤r.2∧r.2 <9223372036854775808:=by decide
theorem Tw (j:Nat):(Oa[j]?).getD (0,1)∈Oa:=by
 cases h:Oa[j]? with
 |none=>simp[Oa]
 |some r=>exact qJ h
theorem I4 (l:List Int) (a i:Nat) (hi:i≤3) (x:Val) (hx:Na l a i=some x):x.a=i∧DC x=true∧x.ok:=by
 unfold Na at hx;simp only at hx;split at hx
 ·simp only[qF]at hx;have hm:=Tw ((IntKind.i64.wrap ((Ai l ((a+i:Nat):Int) 1048576).tdiv 3)).tmod 8).toNat;generalize (Oa[((IntKind.i64.wrap ((Ai l ((a+i:Nat):Int) 1048576).tdiv 3)).tmod 8).toNat]?).getD (0,1)=r at hx hm;subst hx;obtain⟨h1,h2,h3⟩:=WP r hm;exact⟨rfl,h1,by simp only[i64];omega,h2,h3⟩
 ·cases hx
theorem SC (l:List Int) (m:Int) (h1:∀x∈l,0≤x∧x <m) (h2:l.Pairwise (· <·)):Ec l m=true:=by
 unfold Ec;have:((List.range l.length).any (DA l m))=false:=by
  rw[sD];intro k hk;have hk:=qj.1 hk;have hx:l[k]?=some l[k]:=qH hk;have hm:=h1 _ (rl hk);unfold DA;simp only[List.getD,hx,qd,decide_eq_true_eq];intro hb;rcases hb with hb|hb|⟨hb,hc⟩
  ·omega
  ·omega
  ·have hk1:k-1 <l.length:=by omega
   have:=List.pairwise_iff_getElem.1 h2 (k-1) k hk1 hk (by omega);simp only[qH hk1,qd]at hc;omega
 rw[this];rfl
theorem Jh (k:Int):Ec (KH k) 64=true∧(KH k).length≤6∧∀c∈KH k,0≤c∧c <6:=by
 have hb:∀c∈KH k,0≤c∧c <6:=by
  intro c hc;unfold KH at hc;obtain⟨n,hn,rfl⟩:=qX.1 hc;have:=qj.1 (r9.1 hn).1;omega
 refine⟨SC _ _ (λx hx=>by have:=hb x hx;omega) ?_,?_,hb⟩
 ·unfold KH;rw[List.pairwise_map];refine List.Pairwise.imp (λh=>by omega) ((tD (n:=6)).filter _)
 ·unfold KH;rw[qr];have:=rT (λ(c:Nat)=>(k.fdiv (2^(min c IntKind.i64.bits))).tmod 3==1) (List.range 6);simpa using this
theorem I3 (l:List Int) (a:Nat):(Dp l a 3).all DC=true∧Ec ((Dp l a 3).map Val.a) 32=true∧(Dp l a 3).length≤3∧∀x∈Dp l a 3,x.ok:=by
 have hm:∀x∈Dp l a 3,∃i,i <3∧Na l a i=some x:=by
  intro x hx;obtain⟨i,hi,hx⟩:=List.mem_filterMap.1 hx;exact⟨i,qj.1 hi,hx⟩
 refine⟨qV.2 λx hx=>?_,SC _ _ (λy hy=>?_) ?_,?_,λx hx=>?_⟩
 ·obtain⟨i,hi,hx⟩:=hm x hx;exact(I4 l a i (by omega) x hx).2.1
 ·obtain⟨x,hx,rfl⟩:=qX.1 hy;obtain⟨i,hi,hx⟩:=hm x hx;rw[(I4 l a i (by omega) x hx).1];omega
 ·rw[List.pairwise_map];unfold Dp;rw[List.pairwise_filterMap];refine List.Pairwise.imp_of_mem ?_ (tD (n:=3));intro i j hi hj hij x hx y hy;have hi:=qj.1 hi;have hj:=qj.1 hj;rw[(I4 l a i (by omega) x hx).1,(I4 l a j (by omega) y hy).1];omega
 ·have:=sR (Na l a) (List.range 3);simpa[Dp]using this
 ·obtain⟨i,hi,hx⟩:=hm x hx;exact(I4 l a i (by omega) x hx).2.2
structure Th.good (t:Th):Prop where
 ok:t.ok
 fm:t.formed=true
 kd:t.kinds 6=true
theorem LI (l:List Int):∀d at_,(HO l d at_).1.good
 |0,at_=>by
  obtain⟨c1,c2,c3⟩:=Jh (Ai l at_ 1048576);obtain⟨v1,v2,v3,v4⟩:=I3 l (at_+1);rw[HO];refine⟨.mk (by omega) (by omega) (by simp) v4 (by simp),?_,?_⟩
  ·rw[Th.formed,v1,c1,v2];rfl
  ·rw[Th.kinds,Th.kindss,uN,qV];intro c hc;have:=c3 c hc;simp;omega
 |d+1,at_=>by
  obtain⟨c1,c2,c3⟩:=Jh (Ai l at_ 1048576);obtain⟨v1,v2,v3,v4⟩:=I3 l (at_+1);have hp:=Gj (HO l d) l.length Th.good (LI l d) (Ai l ((at_+4:Nat):Int) 4).toNat (at_+5);have hn:=Gi (HO l d) l.length (Ai l ((at_+4:Nat):Int) 4).toNat (at_+5);have h3:=PP l ((at_+4:Nat):Int);rw[HO];refine⟨.mk (by omega) (by omega) (by omega) v4 (λp h=>(hp p h).ok),?_,?_⟩
  ·rw[Th.formed,v1,c1,v2,Er];simp only[rC];exact qV.2 λp h=>(hp p h).fm
  ·rw[Th.kinds,Gn,qI];refine⟨qV.2 λc hc=>?_,qV.2 λp h=>(hp p h).kd⟩;have:=c3 c hc;simp;omega
def Fo:Nat→Int
 |0=>1
 |d+1=>1+3*Fo d
theorem Mr:∀d,0 <Fo d
 |0=>by simp[Fo]
 |d+1=>by have:=Mr d;rw[Fo];omega
theorem Ul (S lv:Int) (hS:0 <S):∀(ps:List Th),(∀p∈ps,∀lf,S≤lf→lf-S≤p.nd lv lf)→∀lf,ps.length*S≤lf→lf-ps.length*S≤Th.nds ps lv lf
 |[],_,lf,h=>by simp[Th.nds]
 |p::ps,hp,lf,h=>by
  have e:((p::ps).length:Int)*S=ps.length*S+S:=by rw[qT,rQ,sM];simp
  have hn:0≤(ps.length:Int)*S:=sS (by omega) (by omega);rw[e]at h ⊢;have h1:=hp p (by simp) lf (by omega);have h2:=Ul S lv hS ps (λq hq=>hp q (by simp[hq])) (p.nd lv lf) (by omega);rw[Th.nds,if_neg (by omega)];omega
theorem Tt (l:List Int):∀(d at_:Nat) (lv lf:Int),lv+d≤8→Fo d≤lf→lf-Fo d≤(HO l d at_).1.nd lv lf
 |0,at_,lv,lf,h1,h2=>by
  simp only[Fo]at h2 ⊢;rw[HO,Th.nd,if_neg (by omega),Th.nds];omega
 |d+1,at_,lv,lf,h1,h2=>by
  have hpos:=Mr d;simp only[Fo]at h2 ⊢;rw[HO,Th.nd,if_neg (by omega)];have hp:=Gj (HO l d) l.length (λp=>∀lf,Fo d≤lf→lf-Fo d≤p.nd (lv+1) lf) (λa lf h=>Tt l d a (lv+1) lf (by omega) h) (Ai l ((at_+4:Nat):Int) 4).toNat (at_+5);have hn:=Gi (HO l d) l.length (Ai l ((at_+4:Nat):Int) 4).toNat (at_+5);have h3:=PP l ((at_+4:Nat):Int);generalize (DN (HO l d) l.length (Ai l ((at_+4:Nat):Int) 4).toNat (at_+5)).1=ps at*;have h4:(ps.length:Int)*Fo d≤3*Fo d:=ry (by omega) (by omega);have:=Ul (Fo d) (lv+1) hpos ps hp (lf-1) (by omega);omega
theorem I5 (l:List Int) (at_:Nat):F5 (HO l 2 at_).1=0:=by
 unfold F5 Qr;have h:=Tt l 2 at_ 1 96 (by decide) (by decide);have e:Fo 2=13:=by decide
 rw[e]at h;rw[decide_eq_true (by omega),(LI l 2 at_).fm];rfl
inductive Th.small:Th→Prop
 |mk {cs vs ps} (h1:cs.length≤2^20) (h2:vs.length≤2^20) (h3:ps.length≤2^20) (h5:∀p∈ps,Th.small p):Th.small (.mk cs vs ps)
theorem NZ:∀l:List V,D.vs? (l.map D.v)=some l
 |[]=>rfl
 |x::l=>by
  have:=NZ l;simp only[qR,D.vs?,D.v?,this]
def QO (f:Nat→Th×Nat) (len:Nat) (dd:Int) (n at_:Nat):List Th×Nat:=if 1 <dd then DN f len n at_ else ([],at_)
theorem mY (l:List Int) (f:Nat→Th×Nat) (dd:Int) (hdd:1≤dd∧dd≤9) (hB:∀a,(f a).2≤a+100) (M:Nat) (hM:M≤10000) (hf:1 <dd→∀a,a≤M+500→PX 60 [AH .i64 l,.int .i64 a,.int .i64 6,.int .i64 (dd-1)] [(f a).1.V,.int .i64 (f a).2])
  (many at_:Nat) (hm:many≤3) (ha:at_≤M+5) (R0:Row) (C W:D) (J0:List Row) (Q:AExit→St→Prop) (res:List Th×Nat) (hres:QO f l.length dd many at_=res)
  (hQ:∀e J,AF e 8= .ref 0 0→AF e 10= .ref 1 0→AF e 1= .v (.int .i64 res.2)→Q (.exit 4) ⟨e,R0:: .cells [C,W,.own 58 3 (res.1.map Th.V)]::J⟩):
  awp Tryz.prog An (.loop (lG 60 2)) Q ⟨[(0,.v (AH .i64 l)),(1,.v (.int .i64 at_)),(2,.v (.int .i64 6)),(3,.v (.int .i64 dd)),(8,.ref 0 0),(10,.ref 1 0),(16,.v (.int .i64 many)),(17,.v (.int .i64 (0:Nat)))],R0:: .cells [C,W,.own 58 3 []]::J0⟩:=by
 refine Al many (λk s=>∃(J:List Row) (a:Nat) (done:List Th),s=⟨[(0,.v (AH .i64 l)),(1,.v (.int .i64 a)),(2,.v (.int .i64 6)),(3,.v (.int .i64 dd)),(8,.ref 0 0),(10,.ref 1 0),(16,.v (.int .i64 many)),(17,.v (.int .i64 k))],
   R0:: .cells [C,W,.own 58 3 (done.map Th.V)]::J⟩∧a≤M+5+100*k∧done.length≤k∧(done++(QO f l.length dd (many-k) a).1,(QO f l.length dd (many-k) a).2)=res) ⟨J0,at_,[],by simp,by omega,by simp,by simpa using hres⟩ ?_
 rintro k s hk ⟨J,a,done,rfl,ha,hd,hr⟩;have w1:IntKind.i64.wrap (dd-1)=dd-1:=AQ;have w2:=Bo k;have hstop:QO f l.length dd (many-k) a=([],a)→Q (.exit 4) ⟨[(0,.v (AH .i64 l)),(1,.v (.int .i64 a)),(2,.v (.int .i64 6)),(3,.v (.int .i64 dd)),(8,.ref 0 0),(10,.ref 1 0),(16,.v (.int .i64 many)),(17,.v (.int .i64 k)),(95,.v (.bool false))],
   R0:: .cells [C,W,.own 58 3 (done.map Th.V)]::J⟩:=by
  intro h0;rw[h0]at hr;simp only[sI]at hr;subst hr;exact hQ _ J rfl rfl rfl
 simp only[Zw,BA 60 2,AA 60 20];simp[AH]at hstop ⊢;by_cases h1:k <many
 ·have h1':(k:Int) <many:=by omega
  have e1:many-k=(many-(k+1))+1:=by omega
  by_cases h2:1 <dd
  ·by_cases h3:a <l.length
   ·have h3':(a:Int) <l.length:=by omega
    have q:=(hf h2 a (by omega)).fsp;have hb:=hB a;have hroom:AK (done.length+1) 72=true:=by simp[AK];omega
    rw[e1,QO,if_pos h2,DN,if_pos h3]at hr;generalize (f a).2=a2 at*;generalize (f a).1=p at*;obtain⟨pc,pv,pp⟩:=p;simp[AH,Th.V_eq]at q;simp[h1,h2,h3,AB];simp only[AA 60 22];simp[w1];refine⟨_,_,q _,?_⟩;simp[AS];simp only[AA 60 23,AA 60 24,AA 60 21];simp[hroom,w2];refine⟨_,a2,done++[Th.mk pc pv pp],⟨rfl,by simp[Th.V_eq,AH],rfl⟩,by omega,by simp;omega,?_⟩;rw[←hr,QO,if_pos h2];simp
   ·have h0:QO f l.length dd (many-k) a=([],a):=by rw[e1,QO,if_pos h2,DN,if_neg h3]
    simp[h1,h2,h3,AJ];exact hstop h0
  ·have h0:QO f l.length dd (many-k) a=([],a):=by rw[QO,if_neg h2]
   simp[h1,h2,AJ];exact hstop h0
 ·have h0:QO f l.length dd (many-k) a=([],a):=by
   rw[show many-k=0 by omega,QO];split<;>simp[DN]
  simp[h1,AJ];exact⟨by omega,hstop h0⟩
theorem mX (l:List Int) (hl:∀n∈l,i64 n) (at_:Nat) (ha:at_≤20000) (x2 x3:V) (R0:Row) (C:D) (J0:List Row) (Q:AExit→St→Prop)
  (hQ:∀J,Q (.exit 2) ⟨[(0,.v (AH .i64 l)),(1,.v (.int .i64 (at_+3:Nat))),(2,.v x2),(3,.v x3),(8,.ref 0 0),(10,.ref 1 0),(13,.v (.int .i64 3)),(45,.v (.bool false))],R0:: .cells [C,.own 171 3 ((Dp l at_ 3).map Val.V),.own 58 3 []]::J⟩):
  awp Tryz.prog An (.loop (lG 60 1)) Q ⟨[(0,.v (AH .i64 l)),(1,.v (.int .i64 at_)),(2,.v x2),(3,.v x3),(8,.ref 0 0),(10,.ref 1 0),(13,.v (.int .i64 (0:Nat)))],R0:: .cells [C,.own 171 3 [],.own 58 3 []]::J0⟩:=by
 refine Al 3 (λk s=>∃J:List Row,s=⟨[(0,.v (AH .i64 l)),(1,.v (.int .i64 (at_+k:Nat))),(2,.v x2),(3,.v x3),(8,.ref 0 0),(10,.ref 1 0),(13,.v (.int .i64 k))],R0:: .cells [C,.own 171 3 ((Dp l at_ k).map Val.V),.own 58 3 []]::J⟩) ⟨J0,by simp[Dp]⟩ ?_;rintro k s hk ⟨J,rfl⟩;simp only[Zw,BA 60 1,AA 60 10];simp[AH];by_cases h1:k <3
 ·have h1':(k:Int) <3:=by omega
  have w1:=Bo k;have w2:IntKind.i64.wrap (((at_:Int)+k)+1)=at_+(k+1):=by rw[AQ];omega
  have q:=(Rp l ((at_+k:Nat):Int) 1048576 (by decide)).fsp;have hnn:=O6 l hl ((at_+k:Nat):Int) 1048576;have hs:Dp l at_ (k+1)=Dp l at_ k++(match Na l at_ k with|some x=>[x]|none=>[]):=by
   unfold Dp;rw[sG,List.filterMap_append]
   congr 1
   simp only[List.filterMap_cons,List.filterMap_nil];cases Na l at_ k<;>rfl
  have hlen:(Dp l at_ k).length≤k:=by
   have:=sR (Na l at_) (List.range k);simpa[Dp]using this
  have hroom:AK ((Dp l at_ k).length+1) 24=true:=by simp[AK];omega
  rw[hs];unfold Na;simp only;generalize Dp l at_ k=L at*;have hle:=El l ((at_+k:Nat):Int) 1048576 (by decide);generalize Ai l ((at_+k:Nat):Int) 1048576=n at*;have hq1:0≤n.tdiv 3:=Int.tdiv_nonneg hnn (by decide);have hq2:n.tdiv 3≤n:=Int.tdiv_le_self _ hnn;have w3:IntKind.i64.wrap (n.tdiv 3)=n.tdiv 3:=AQ;rw[w3];have hm0:0≤(n.tdiv 3).tmod 8:=t9 _ hq1;have hm1:(n.tdiv 3).tmod 8 <8:=tI _ (by decide);simp[AH]at q;simp[h1',AB];simp only[AA 60 12];simp;refine⟨_,_,q _,?_⟩;simp only[AA 60 13];by_cases h3:n.tmod 3=0
  ·have:(n.tdiv 3).tmod 8=0∨(n.tdiv 3).tmod 8=1∨(n.tdiv 3).tmod 8=2∨(n.tdiv 3).tmod 8=3∨(n.tdiv 3).tmod 8=4∨(n.tdiv 3).tmod 8=5∨(n.tdiv 3).tmod 8=6∨(n.tdiv 3).tmod 8=7:=by omega
   rcases this with e|e|e|e|e|e|e|e<;>
    simp[h3,AA 60 14,w3,e,V.getI,AS,AA 60 15,AA 60 16,AA 60 11,hroom,w1,w2,h1,Oa,Val.V]
  ·simp[h3,AA 60 16,AA 60 11,w1,w2,h1]
 ·have hk3:k=3:=by omega
  subst hk3;simp[AJ];have:=hQ J;simpa[AH]using this
theorem mZ (n:Int) (d0 d1 d3:V) (R0:Row) (Q:AExit→St→Prop)
  (hQ:Q (.exit 0) ⟨[(0,.v d0),(1,.v d1),(2,.v (.int .i64 6)),(3,.v d3),(8,.ref 0 0),(10,.ref 1 0),(11,.v (.int .i64 n)),(12,.v (.int .i64 6)),(28,.v (.bool false))],[R0,.cells [.own 3 1 ((KH n).map (.int .i64)),.own 171 3 [],.own 58 3 []]]⟩):
  awp Tryz.prog An (.loop (lG 60 0)) Q ⟨[(0,.v d0),(1,.v d1),(2,.v (.int .i64 6)),(3,.v d3),(8,.ref 0 0),(10,.ref 1 0),(11,.v (.int .i64 n)),(12,.v (.int .i64 (0:Nat)))],[R0,.cells [.own 3 1 [],.own 171 3 [],.own 58 3 []]]⟩:=by
 refine AM 6 (λk=>⟨[(0,.v d0),(1,.v d1),(2,.v (.int .i64 6)),(3,.v d3),(8,.ref 0 0),(10,.ref 1 0),(11,.v (.int .i64 n)),(12,.v (.int .i64 k))],
  [R0,.cells [.own 3 1 ((((List.range k).filter λc=>(n.fdiv (2^(min c IntKind.i64.bits))).tmod 3==1).map λ(c:Nat)=>(c:Int)).map (.int .i64)),.own 171 3 [],.own 58 3 []]]⟩) (by simp) ?_
 intro k hk;simp only[Zw,BA 60 0,AA 60 5];simp;by_cases h1:k <6
 ·have h1':(k:Int) <6:=by omega
  have w1:=Bo k;have t1:(k:Int).tmod 20=k:=Int.tmod_eq_of_lt (by omega) (by omega);have w2:IntKind.u64.wrap (k:Int)=k:=BM (by omega) (by omega);have hs:(List.range (k+1)).filter (λc=>(n.fdiv (2^(min c IntKind.i64.bits))).tmod 3==1)=(List.range k).filter (λc=>(n.fdiv (2^(min c IntKind.i64.bits))).tmod 3==1)++(if (n.fdiv (2^(min k IntKind.i64.bits))).tmod 3==1 then [k] else []):=by
   rw[sG,su];simp only[uA,uO]
  have hlen:((List.range k).filter (λc=>(n.fdiv (2^(min c IntKind.i64.bits))).tmod 3==1)).length≤k:=by
   have:=rT (λc=>(n.fdiv (2^(min c IntKind.i64.bits))).tmod 3==1) (List.range k);simpa using this
  rw[hs];generalize (List.range k).filter (λc=>(n.fdiv (2^(min c IntKind.i64.bits))).tmod 3==1)=L at*;have hroom:AK (L.length+1) 8=true:=by simp[AK];omega
  simp[h1',AB];simp only[AA 60 7];simp[t1,w2];by_cases h2:(n.fdiv (2^(min k IntKind.i64.bits))).tmod 3=1
  ·simp[h2,AA 60 8,hroom,AA 60 6,w1,h1]
  ·simp[h2,AA 60 6,w1,h1]
 ·have hk6:k=6:=by omega
  subst hk6;simp[AJ];simpa[KH]using hQ
theorem Zf (l:List Int) (hl:∀n∈l,i64 n) (f:Nat→Th×Nat) (dd:Int) (hdd:1≤dd∧dd≤9) (hB:∀a,(f a).2≤a+100) (M:Nat) (hM:M≤10000) (hf:1 <dd→∀a,a≤M+500→PX 60 [AH .i64 l,.int .i64 a,.int .i64 6,.int .i64 (dd-1)] [(f a).1.V,.int .i64 (f a).2])
  (at_:Nat) (ha:at_≤M) (res:List Th×Nat) (hres:QO f l.length dd (Ai l ((at_+4:Nat):Int) 4).toNat (at_+5)=res):
  PX 60 [AH .i64 l,.int .i64 at_,.int .i64 6,.int .i64 dd] [(Th.mk (KH (Ai l at_ 1048576)) (Dp l (at_+1) 3) res.1).V,.int .i64 res.2]:=by
 refine BU 60 ?_;have q1:=(Rp l at_ 1048576 (by decide)).fsp;have q2:=(Rp l ((at_+4:Nat):Int) 4 (by decide)).fsp;have hnn:=O6 l hl ((at_+4:Nat):Int) 4;have hm4:=PP l ((at_+4:Nat):Int);have hm:((Ai l ((at_+4:Nat):Int) 4).toNat:Int)=Ai l ((at_+4:Nat):Int) 4:=tL hnn;have w1:IntKind.i64.wrap ((at_:Int)+1)=(at_+1:Nat):=by rw[AQ];omega
 have w2:IntKind.i64.wrap ((at_:Int)+1+3+1)=(at_+5:Nat):=by rw[AQ];omega
 have hc:=λR0 Q=>mZ (Ai l at_ 1048576) (AH .i64 l) (.int .i64 (at_+1:Nat)) (.int .i64 dd) R0 Q;have hv:=λR0 C J Q=>mX l hl (at_+1) (by omega) (.int .i64 6) (.int .i64 dd) R0 C J Q;have hp:=λR0 C W J Q=>mY l f dd hdd hB M hM hf (Ai l ((at_+4:Nat):Int) 4).toNat (at_+5) hm4 (by omega) R0 C W J Q res hres;rw[hm]at hp;generalize KH (Ai l at_ 1048576)=C at*;generalize Ai l ((at_+4:Nat):Int) 4=many at*;generalize Ai l at_ 1048576=n at*;generalize Dp l (at_+1) 3=W at*;simp[AH]at q1 q2 hc hv hp;simp only[At 60,AE,AG,AU,AA 60 0,AA 60 1,AA 60 2,AV];simp[AH,AS];refine⟨_,_,q1 _,?_⟩;simp[AA 60 3,AA 60 4,w1];refine hc _ _ ?_;simp[AA 60 9];refine hv _ _ _ _ ?_;intro J;simp[AA 60 17];have e4:((at_:Int)+1+3)=(at_:Int)+4:=by omega
 rw[e4];refine⟨_,_,q2 _,?_⟩;simp[AA 60 18,AA 60 19];rw[e4]at w2;simp at w2;rw[w2];refine hp _ _ _ _ _ ?_;intro e J' h8 h10 h1;simp[AA 60 25,h8,h10,h1,AS,AD,AX 60,Th.V_eq,AH,D.vs?,D.v?]
theorem Tv (l:List Int) (d:Nat) (hd:d≤2) (a:Nat):(HO l d a).2≤a+100:=by
 have:=Tu l d a;have h2:4^d≤4^2:=so (by decide) hd;have h3:(4:Nat)^2=16:=by decide
 omega
theorem dD (l:List Int) (hl:∀n∈l,i64 n) (at_:Nat) (ha:at_≤1500):PX 60 [AH .i64 l,.int .i64 at_,.int .i64 6,.int .i64 1] [(HO l 0 at_).1.V,.int .i64 (HO l 0 at_).2]:=
 Zf l hl (HO l 0) 1 (by decide) (Tv l 0 (by decide)) 1500 (by decide) (λh=>by omega) at_ ha ([],at_+5) (by rw[QO,if_neg (by decide)])
theorem dB (l:List Int) (hl:∀n∈l,i64 n) (at_:Nat) (ha:at_≤1000):PX 60 [AH .i64 l,.int .i64 at_,.int .i64 6,.int .i64 2] [(HO l 1 at_).1.V,.int .i64 (HO l 1 at_).2]:=
 Zf l hl (HO l 0) 2 (by decide) (Tv l 0 (by decide)) 1000 (by decide) (λ_ a h=>dD l hl a h) at_ ha _ (by rw[QO,if_pos (by decide)])
theorem c8 (l:List Int) (hl:∀n∈l,i64 n) (at_:Nat) (ha:at_≤500):PX 60 [AH .i64 l,.int .i64 at_,.int .i64 6,.int .i64 3] [(HO l 2 at_).1.V,.int .i64 (HO l 2 at_).2]:=
 Zf l hl (HO l 1) 3 (by decide) (Tv l 1 (by decide)) 500 (by decide) (λ_ a h=>dB l hl a h) at_ ha _ (by rw[QO,if_pos (by decide)])
def A6 (l:List Int):Th:=(HO l 2 0).1
theorem pV (l:List Int) (hl:∀n∈l,i64 n):PX 21 [AH .i64 l,.int .i64 6,.int .i64 3] [(A6 l).V]:=by
 refine BU 21 ?_;have q:=(c8 l hl 0 (by decide)).fsp;unfold A6;generalize (HO l 2 0).2=m at*;generalize (HO l 2 0).1=t at*;obtain⟨cs,vs,ps⟩:=t;simp[AH,Th.V_eq]at q;simp only[At 21,AE,AG,AA 21 0,AA 21 1,AV];simp[AH,Th.V_eq];refine⟨_,_,q _,?_⟩;simp[AS,AA 21 2,AD,AX 21,D.vs?,D.v?]
end Go.Va
