/- Laws that ExtractAnswers leans on, part 25. No condition of its own. -/
import Derived.Test.YtopldfpkgbkomaaGreatDoorL20
set_option linter.all false
set_option maxRecDepth 100000
set_option maxHeartbeats 4000000
noncomputable section
namespace Go.Va
open Go.Proofs
mutual
def Th.size:Th→Nat| .mk _ _ ps=>1+Th.sizes ps
def Th.sizes:List Th→Nat|[]=>0|k::ks=>k.size+Th.sizes ks
end
mutual
def Th.depth:Th→Nat| .mk _ _ ps=>Th.depths ps+1
def Th.depths:List Th→Nat|[]=>0|k::ks=>max k.depth (Th.depths ks)
end
theorem Th.size_pos (t:Th):1≤t.size:=by cases t;rw[Th.size];omega
variable {k:Nat}
theorem Th.sizes_take {l:List Th} {x:Th} (hx:l[k]?=some x):Th.sizes (l.take (k+1))=Th.sizes (l.take k)+x.size∧Th.depths (l.take (k+1))=max (Th.depths (l.take k)) x.depth∧Th.sizes (l.take (k+1))≤Th.sizes l:=by
 induction l generalizing k with
 |nil=>simp at hx
 |cons y l ih=>
  cases k with
  |zero=>simp at hx;subst hx;simp[Th.sizes,Th.depths]
  |succ k=>simp at hx;have:=ih hx;simp only[ri,Th.sizes,Th.depths];omega
theorem Th.sizes_le {l:List Th} {x:Th} (hx:x∈l):x.size≤Th.sizes l:=by
 induction l with
 |nil=>cases hx
 |cons y l ih=>
  rw[Th.sizes];cases hx with
  |head=>omega
  |tail _ h=>have:=ih h;omega
theorem Th.depths_le (l:List Th) (h:∀x∈l,x.depth≤x.size):Th.depths l≤Th.sizes l:=by
 induction l with
 |nil=>simp[Th.depths]
 |cons k ks ih=>
  have:=h k (by simp);have:=ih λx hx=>h x (by simp[hx]);simp only[Th.depths,Th.sizes];omega
theorem Th.depth_le:∀t:Th,t.depth≤t.size:=by
 refine Th.ind λcs vs ps ih=>?_;have:=Th.depths_le ps ih;rw[Th.size,Th.depth];omega
theorem Th.len_le (l:List Th):l.length≤Th.sizes l:=by
 induction l with
 |nil=>simp
 |cons k ks ih=>have:=k.size_pos;simp only[Th.sizes,oj];omega
theorem Th.nds_of (l:List Th) (h:∀x∈l,∀lv lf:Int,x.nd lv lf=if lv+x.depth≤9∧x.size≤lf then lf-x.size else -1):∀lv lf:Int,lv≤9→0≤lf→Th.nds l lv lf=if lv+Th.depths l≤9∧Th.sizes l≤lf then lf-Th.sizes l else -1:=by
 induction l with
 |nil=>intro lv lf h1 h2;simp[Th.nds,Th.depths,Th.sizes,h1,h2]
 |cons x xs ih=>
  intro lv lf h1 h2;have hx:=h x (by simp) lv lf;have hp:=x.size_pos;rw[Th.nds,hx];have e1:Th.depths (x::xs)=max x.depth (Th.depths xs):=rfl;have e2:Th.sizes (x::xs)=x.size+Th.sizes xs:=rfl;by_cases c1:lv+x.depth≤9∧x.size≤lf
  ·rw[if_pos c1,if_neg (by omega),ih (λy hy=>h y (by simp[hy])) lv _ h1 (by omega)];by_cases c2:lv+Th.depths xs≤9∧Th.sizes xs≤lf-x.size
   ·rw[if_pos c2,if_pos (by omega)];omega
   ·rw[if_neg c2,if_neg (by omega)]
  ·rw[if_neg c1,if_pos (by omega),if_neg (by omega)]
theorem Th.nd_of:∀(t:Th) (lv lf:Int),t.nd lv lf=if lv+t.depth≤9∧t.size≤lf then lf-t.size else -1:=by
 refine Th.ind λcs vs ps ih lv lf=>?_;rw[Th.nd,Th.size,Th.depth];by_cases c1:8 <lv∨lf <1
 ·rw[if_pos c1,if_neg (by omega)]
 ·rw[if_neg c1,Th.nds_of ps ih _ _ (by omega) (by omega)];by_cases c2:lv+1+Th.depths ps≤9∧Th.sizes ps≤lf-1
  ·rw[if_pos c2,if_pos (by omega)];omega
  ·rw[if_neg c2,if_neg (by omega)]
theorem Qc (t:Th):Pj t=decide (t.depth≤8∧t.size≤96):=by
 have:=t.size_pos;unfold Pj;rw[t.nd_of];by_cases c:t.depth≤8∧t.size≤96
 ·rw[if_pos (by omega)];simp[c];omega
 ·rw[if_neg (by omega)];simp;omega
theorem im:∀t:Th,t.size≤2^40→PX 195 [t.V] [.int .i64 t.size]:=by
 refine Th.ind λcs vs ps ih hsz=>?_;refine BJ 195 ?_;rw[Th.size]at hsz ⊢;have hkl:=Th.len_le ps;simp only[Ai 195,AE,AF,AM,AA 195 0,AA 195 1,AA 195 2,AX];simp[Th.V_eq];refine AN ps.length (λk=>⟨[(1,.ref 0 0),(3,.v (.int .i64 (1+Th.sizes (ps.take k):Nat))),(4,.v (.int .i64 k))],[.cells (Th.mk cs vs ps).cells]⟩) (by simp[Th.cells,Th.cs,Th.vs,Th.ps,Th.sizes]) ?_;intro k hk;simp only[Zw,A8 195 0,AA 195 3,Th.cells,Th.cs,Th.vs,Th.ps];simp;by_cases h1:k <ps.length
 ·obtain⟨x,hx⟩:∃x,ps[k]?=some x:=⟨_,oI h1⟩;have hxm:=oK hx;have hw:=Bb k;have hxs:=Th.sizes_le hxm;have p1:=(ih x hxm (by omega)).fsp;obtain⟨t1,_,t3⟩:=Th.sizes_take hx;have hw2:IntKind.i64.wrap (1+(Th.sizes (ps.take k):Int)+x.size)=1+(Th.sizes (ps.take (k+1)):Int):=by
   rw[AL];omega
  rw[if_pos (by omega),AD];simp only[AA 195 4,AA 195 5];obtain⟨xc,xv,xp⟩:=x;simp[Th.V_eq]at p1;simp[hx,Th.V_eq];refine⟨_,_,p1 _,?_⟩;simp[hw,hw2,h1]
 ·have hk2:k=ps.length:=by omega
  subst hk2;rw[if_neg (by omega),AJ];simp[AB,AA 195 6,AW 195]
theorem ik:∀t:Th,t.size≤2^40→PX 196 [t.V] [.int .i64 t.depth]:=by
 refine Th.ind λcs vs ps ih hsz=>?_;refine BJ 196 ?_;rw[Th.size]at hsz;have hkl:=Th.len_le ps;have hdl:=Th.depths_le ps λx _=>x.depth_le;simp only[Ai 196,AE,AF,AM,AA 196 0,AA 196 1,AA 196 2,AX];simp[Th.V_eq];refine AN ps.length (λk=>⟨[(1,.ref 0 0),(3,.v (.int .i64 (Th.depths (ps.take k)))),(4,.v (.int .i64 k))],[.cells (Th.mk cs vs ps).cells]⟩) (by simp[Th.cells,Th.cs,Th.vs,Th.ps,Th.depths]) ?_;intro k hk;simp only[Zw,A8 196 0,AA 196 3,Th.cells,Th.cs,Th.vs,Th.ps];simp;by_cases h1:k <ps.length
 ·obtain⟨x,hx⟩:∃x,ps[k]?=some x:=⟨_,oI h1⟩;have hxm:=oK hx;have hw:=Bb k;have hxs:=Th.sizes_le hxm;have p1:=(ih x hxm (by omega)).fsp;obtain⟨_,ht,_⟩:=Th.sizes_take hx;rw[if_pos (by omega),AD];simp only[AA 196 4,AA 196 5];obtain⟨xc,xv,xp⟩:=x;simp[Th.V_eq]at p1;simp[hx,Th.V_eq];refine⟨_,_,p1 _,?_⟩;simp[hw,h1,ht];split<;>omega
 ·have hk2:k=ps.length:=by omega
  subst hk2;rw[if_neg (by omega),AJ];have hw2:IntKind.i64.wrap ((Th.depths ps:Int)+1)=Th.depths ps+1:=AL;simp[AB,AA 196 6,AW 196,hw2,Th.depth]
theorem kD (m:Nat):∀(a b:Int),b≤m→0≤a→0≤b→a≤2^62→b≤2^62→
  awp Tryz.prog Ah (.loop (lG 319 0)) (λe s=>e= .exit 0∧AG s.e 0= .v (.int .i64 (Int.gcd a b))) ⟨[(0,.v (.int .i64 a)),(1,.v (.int .i64 b))],[]⟩:=by
 induction m with
 |zero=>
  intro a b hb h1 h2 h3 h4;have:b=0:=by omega
  subst this;refine As ?_;simp only[Zw,A8 319 0,AA 319 1];simp[AJ];omega
 |succ m ih=>
  intro a b hb h1 h2 h3 h4;by_cases h0:b=0
  ·exact ih a b (by omega) h1 h2 h3 h4
  ·have e:a.tmod b=a%b:=sJ h1;have hlt:=Int.emod_lt_of_pos a (show 0 <b by omega);have hge:=Int.emod_nonneg a h0;have hih:=ih b (a%b) (by omega) h2 hge h4 (by omega);have e2:Int.gcd b (a%b)=Int.gcd a b:=by
    rw[←e];unfold Int.gcd;rw[Int.natAbs_tmod,Nat.gcd_comm,←Nat.gcd_rec,Nat.gcd_comm]
   rw[e2]at hih;refine Bl ?_ hih;simp only[Zw,A8 319 0,AA 319 1];have w1:IntKind.i64.wrap (a%b)=a%b:=AL;have hpos:0 <b:=by omega
   simp[AD,AA 319 2,AA 319 3,AA 319 4,e,h0,hpos]
theorem fG (a b:Int) (h1:0≤a) (h2:0≤b) (h3:a≤2^62) (h4:b≤2^62):PX 319 [.int .i64 a,.int .i64 b] [.int .i64 (Int.gcd a b)]:=by
 refine BJ 319 ?_;simp only[Ai 319,AE,AM,AF,AA 319 0,AX];simp;refine Ad _ ?_ (kD b.toNat a b (by omega) h1 h2 h3 h4);rintro e s ⟨rfl,h⟩;simp[AA 319 5,h,AB,AW 319]
theorem gC (x:Val) (hx:x.ok):PX 281 [A0 x.n x.d] [.bool (Cj x)]:=by
 refine BJ 281 ?_;simp only[Ai 281,AE,AF,AK,AA 281 0,AA 281 1,AX];unfold Cj EA;obtain⟨a,n,d⟩:=x;simp only;by_cases b1:d <1
 ·simp[A0,b1,AB,AA 281 2,AW 281]<;>omega
 by_cases b2:65536 <d
 ·simp[A0,b1,b2,AB,AA 281 2,AW 281]<;>omega
 by_cases b4:n < -1099511627776
 ·simp[A0,b1,b2,b4,AB,AA 281 2,AW 281]<;>omega
 by_cases b3:1099511627776 <n
 ·simp[A0,b1,b2,b3,b4,AB,AA 281 2,AW 281]<;>omega
 have hw:IntKind.i64.wrap (-n)= -n:=AL;simp[A0,b1,b2,b3,b4,AD];simp only[AA 281 3];simp[hw];have hg:Int.gcd (if n < -n then -n else n) d=Int.gcd n d:=by split<;>simp
 have q:=(fG (if n < -n then -n else n) d (by split<;>omega) (by omega) (by split<;>omega) (by omega)).fsp
 rw[hg]at q;refine⟨_,_,q _,?_⟩;simp[AB,AW 281];rw[pt];simp;omega
theorem bX (cs:List Int) (vs:List Val) (ps:List Th) (hn:cs.length≤2^40) (Q:AExit→St→Prop)
  (hr:∀e h,Ee cs 64=false→AG e 2= .v (.bool false)→Q .ret ⟨e,h⟩)
  (hs:∀e h,Ee cs 64=true→AG e 1= .ref 0 0→h=[.cells (Th.mk cs vs ps).cells]→Q (.exit 0) ⟨e,h⟩):
  awp Tryz.prog Ah (.loop (lG 197 0)) Q ⟨[(1,.ref 0 0),(3,.v (.int .i64 0))],[.cells (Th.mk cs vs ps).cells]⟩:=by
 refine Al cs.length (λk=>⟨[(1,.ref 0 0),(3,.v (.int .i64 k))],[.cells (Th.mk cs vs ps).cells]⟩) (λk=>∀j <k,C4 cs 64 j=false) (by simp) (by omega) ?_;intro k hk hI;simp only[Zw,A8 197 0,AA 197 2,Th.cells,Th.cs,Th.vs,Th.ps,AH];simp;by_cases h1:k <cs.length
 ·obtain⟨x,hx⟩:∃x,cs[k]?=some x:=⟨_,oI h1⟩;have hw:=Bb k;have hb:C4 cs 64 k=true↔(x <0∨64≤x∨(0 <k∧x≤cs.getD (k-1) 0)):=by unfold C4;rw[decide_eq_true_iff];simp[List.getD,hx]
  have hf:¬(x <0∨64≤x∨(0 <k∧x≤cs.getD (k-1) 0))→C4 cs 64 k=false:=λh=>by
   cases h':C4 cs 64 k with
   |true=>exact absurd (hb.1 h') h
   |false=>rfl
  have ret:C4 cs 64 k=true→Ee cs 64=false:=λh=>by unfold Ee;rw[D3 h1 h];rfl
  have go:C4 cs 64 k=false→∀j <k+1,C4 cs 64 j=false:=λh j hj=>by
   rcases om j k with h'|h'
   ·exact hI j h'
   ·have:j=k:=by omega
    subst this;exact h
  rw[if_pos (by omega),AD];simp only[AA 197 4,AA 197 5];simp[hx];by_cases b1:x <0
  ·simp[b1,AB,AA 197 6];exact hr _ _ (ret (hb.2 (.inl b1))) rfl
  ·by_cases b2:63 <x
   ·simp[b1,b2,AB,AA 197 6];exact hr _ _ (ret (hb.2 (.inr (.inl (by omega))))) rfl
   ·cases k with
    |zero=>
     have hbf:C4 cs 64 0=false:=hf (by omega);have hw1:IntKind.i64.wrap 1=1:=rfl;simp[hw1,b1,b2,AD,AA 197 3,h1,hbf]
    |succ j=>
     have hw3:IntKind.i64.wrap (j:Int)=j:=AL;have hpos:(0:Int) <(j:Int)+1:=by omega
     obtain⟨y,hy⟩:∃y,cs[j]?=some y:=⟨_,oI (by omega)⟩;simp only[pr,Int.cast_ofNat_Int]at hw;by_cases b3:x≤y
     ·simp[b1,b2,b3,hw3,hy,AB,AA 197 6];exact hr _ _ (ret (hb.2 (.inr (.inr ⟨by omega,by simp[List.getD,hy,b3]⟩)))) rfl
     ·have hbf:C4 cs 64 (j+1)=false:=hf (by simp[List.getD,hy];omega);simp[b1,b2,b3,hw3,hy,AD,AA 197 3,hw,h1];exact go hbf
 ·have hk2:k=cs.length:=by omega
  subst hk2;rw[if_neg (by omega),AJ];refine hs _ _ ?_ rfl rfl;unfold Ee;rw[FJ hI];rfl
theorem bW (cs:List Int) (vs:List Val) (ps:List Th) (hn:vs.length≤2^40) (hv:∀x∈vs,Val.ok x) (Q:AExit→St→Prop)
  (hr:∀e h,(vs.all Cj&&Ee (vs.map Val.a) 32)=false→AG e 2= .v (.bool false)→Q .ret ⟨e,h⟩)
  (hs:∀e J,(vs.all Cj&&Ee (vs.map Val.a) 32)=true→AG e 1= .ref 0 0→Q (.exit 2) ⟨e,.cells (Th.mk cs vs ps).cells::J⟩):
  awp Tryz.prog Ah (.loop (lG 197 1)) Q ⟨[(1,.ref 0 0),(5,.v (.int .i64 0))],[.cells (Th.mk cs vs ps).cells]⟩:=by
 refine AY vs.length (λk s=>∃J,s=⟨[(1,.ref 0 0),(5,.v (.int .i64 k))],.cells (Th.mk cs vs ps).cells::J⟩∧(vs.take k).all Cj=true∧∀j <k,C4 (vs.map Val.a) 32 j=false) ⟨[],by simp,rfl,by omega⟩ ?_;rintro k s hk ⟨J,rfl,hA,hI⟩;simp only[Zw,A8 197 1,AA 197 8,Th.cells,Th.cs,Th.vs,Th.ps,AH];simp;by_cases h1:k <vs.length
 ·obtain⟨x,hx⟩:∃x,vs[k]?=some x:=⟨_,oI h1⟩;have hxm:=oK hx;have hw:=Bb k;have q:=(gC x (hv x hxm)).fsp;have hxa:(vs.map Val.a)[k]?=some x.a:=by rw[oX,hx];rfl
  have hb:C4 (vs.map Val.a) 32 k=true↔(x.a <0∨32≤x.a∨(0 <k∧x.a≤(vs.map Val.a).getD (k-1) 0)):=by unfold C4;rw[decide_eq_true_iff];simp[List.getD,hx]
  have hf:¬(x.a <0∨32≤x.a∨(0 <k∧x.a≤(vs.map Val.a).getD (k-1) 0))→C4 (vs.map Val.a) 32 k=false:=λh=>by
   cases h':C4 (vs.map Val.a) 32 k with
   |true=>exact absurd (hb.1 h') h
   |false=>rfl
  have ret:C4 (vs.map Val.a) 32 k=true→(vs.all Cj&&Ee (vs.map Val.a) 32)=false:=λh=>by unfold Ee;rw[D3 (by simpa using h1) h];simp
  have ret2:Cj x=false→(vs.all Cj&&Ee (vs.map Val.a) 32)=false:=λh=>by
   have:vs.all Cj=false:=by rw[List.all_eq_false];exact⟨x,hxm,by simp[h]⟩
   rw[this];rfl
  have go:C4 (vs.map Val.a) 32 k=false→∀j <k+1,C4 (vs.map Val.a) 32 j=false:=λh j hj=>by
   rcases om j k with h'|h'
   ·exact hI j h'
   ·have:j=k:=by omega
    subst this;exact h
  have goA:Cj x=true→(vs.take (k+1)).all Cj=true:=λh=>by
   rw[oW,hx,List.all_append,hA];simp[h]
  generalize Cj x=g at*;obtain⟨xa,xn,xd⟩:=x;simp only[A0]at q hb hf hxa;rw[if_pos (by omega),AD];simp only[AA 197 10,AA 197 11];simp at q;simp[hx,Val.V,AO];refine⟨_,_,q _,?_⟩;simp only[AS,AA 197 12];cases g with
  |false=>
   simp[AB,AA 197 13];exact hr _ _ (ret2 rfl) rfl
  |true=>
   have goA:=goA rfl;simp only[oY]at goA;simp;by_cases b1:xa <0
   ·simp[b1,AB,AA 197 13];exact hr _ _ (ret (hb.2 (.inl b1))) rfl
   ·have b1':0≤xa:=by omega
    by_cases b2:31 <xa
    ·simp[b1,b1',b2,AB,AA 197 13];exact hr _ _ (ret (hb.2 (.inr (.inl (by omega))))) rfl
    ·cases k with
     |zero=>
      have hbf:C4 (vs.map Val.a) 32 0=false:=hf (by omega);have hw1:IntKind.i64.wrap 1=1:=rfl;simp[hw1,b1,b1',b2,AD,AA 197 9,h1,hbf];exact goA
     |succ j=>
      have hw3:IntKind.i64.wrap (j:Int)=j:=AL;have hpos:(0:Int) <(j:Int)+1:=by omega
      obtain⟨y,hy⟩:∃y,vs[j]?=some y:=⟨_,oI (by omega)⟩;simp only[pr,Int.cast_ofNat_Int]at hw;by_cases b3:xa≤y.a
      ·simp[b1,b1',b2,b3,hw3,hy,Val.V,AB,AA 197 13];exact hr _ _ (ret (hb.2 (.inr (.inr ⟨by omega,by simp[List.getD,hy,b3]⟩)))) rfl
      ·have hbf:C4 (vs.map Val.a) 32 (j+1)=false:=hf (by simp[List.getD,hy];omega);simp[b1,b1',b2,b3,hw3,hy,Val.V,AD,AA 197 9,hw,h1];exact⟨goA,go hbf⟩
 ·have hk2:k=vs.length:=by omega
  subst hk2;rw[if_neg (by omega),AJ];rw[od]at hA;refine hs _ _ ?_ rfl;unfold Ee;rw[hA,FJ (by simpa using hI)];rfl
theorem bV (cs:List Int) (vs:List Val) (ps:List Th) (hn:ps.length≤2^40) (ih:∀p∈ps,PX 197 [p.V] [.bool p.formed]) (J:List Row) (Q:AExit→St→Prop)
  (hr:∀e h,ps.all Th.formed=false→AG e 2= .v (.bool false)→Q .ret ⟨e,h⟩)
  (hs:∀e h,ps.all Th.formed=true→Q (.exit 4) ⟨e,h⟩):
  awp Tryz.prog Ah (.loop (lG 197 2)) Q ⟨[(1,.ref 0 0),(8,.v (.int .i64 0))],.cells (Th.mk cs vs ps).cells::J⟩:=by
 refine Al ps.length (λk=>⟨[(1,.ref 0 0),(8,.v (.int .i64 k))],.cells (Th.mk cs vs ps).cells::J⟩) (λk=>∀x∈ps.take k,x.formed=true) (by simp) (by simp) ?_;intro k hk hI;simp only[Zw,A8 197 2,AA 197 15,Th.cells,Th.cs,Th.vs,Th.ps,AH];simp;by_cases h1:k <ps.length
 ·obtain⟨x,hx⟩:∃x,ps[k]?=some x:=⟨_,oI h1⟩;have hxm:=oK hx;have hw:=Bb k;have q:=(ih x hxm).fsp;have bad:x.formed=false→ps.all Th.formed=false:=λh=>by rw[List.all_eq_false];exact⟨x,hxm,by simp[h]⟩
  have good:x.formed=true→∀y∈ps.take (k+1),y.formed=true:=λh y hy=>by
   rw[oW,hx]at hy;simp at hy;rcases hy with hy|rfl
   ·exact hI y hy
   ·exact h
  generalize x.formed=g at*;obtain⟨xc,xv,xp⟩:=x;simp[Th.V_eq,AH]at q;rw[if_pos (by omega),AD];simp only[AA 197 17];simp[hx,Th.V_eq,AH];refine⟨_,_,q _,?_⟩;simp only[AA 197 18];cases g with
  |false=>
   simp[AB,AA 197 19];exact hr _ _ (bad rfl) rfl
  |true=>
   simp[AD,AA 197 16,hw,h1];exact good rfl
 ·have hk2:k=ps.length:=by omega
  subst hk2;rw[if_neg (by omega),AJ];refine hs _ _ ?_;rw[oY];simpa using hI
theorem ij:∀t:Th,t.ok→PX 197 [t.V] [.bool t.formed]:=by
 refine Th.ind λcs vs ps ih hok=>?_;obtain⟨ok1,ok2,ok3,ok4,ok5⟩:=hok;refine BJ 197 ?_;obtain⟨R,hR⟩:∃R,(Th.mk cs vs ps).formed=R:=⟨_,rfl⟩;rw[hR];rw[Th.formed,EZ]at hR;have q1:=bX cs vs ps (by omega);have q2:=bW cs vs ps (by omega) ok4;have q3:=bV cs vs ps (by omega) λp hp=>ih p hp (ok5 p hp);simp only[Th.cells,Th.cs,Th.vs,Th.ps]at q1 q2 q3;simp only[Ai 197,AE,AF,AM,AA 197 0,AA 197 1,AX];simp[Th.V_eq];refine q1 _ ?_ ?_
 ·intro e h a1 a2;rw[a1]at hR;simp at hR;simp[a2,AW 197,hR]
 ·intro e h a1 a2 a3;subst a3;rw[a1]at hR;simp[AA 197 7,a2];refine q2 _ ?_ ?_
  ·intro e h a1 a2;have:R=false:=by
    rw[←hR,pB,←Bool.and_assoc,a1];rfl
   simp[a2,AW 197,this]
  ·intro e J a1 a2;have hR2:ps.all Th.formed=R:=by
    rw[←hR,pB,←Bool.and_assoc,a1,pB]
   simp[AA 197 14,a2];refine q3 _ _ ?_ ?_
   ·intro e h a1 a2;rw[a1]at hR2;simp[a2,AW 197,hR2]
   ·intro e h a1;rw[a1]at hR2;simp[AB,AA 197 20,AW 197,hR2]
theorem aR (t:Th) (h:t.ok) (hs:t.size≤2^40):PX 103 [t.V] [.int .i64 (Hb t)]:=by
 refine BJ 103 ?_;obtain⟨R,hR⟩:∃R,Hb t=R:=⟨_,rfl⟩;rw[hR];unfold Hb at hR;rw[Qc]at hR;have h1:=(im t hs).fsp;have h2:=(ik t hs).fsp;have h3:=(ij t h).fsp;generalize t.size=sz at*;generalize t.depth=dp at*;generalize t.formed=g at*;obtain⟨cs,vs,ps⟩:=t;simp only[Ai 103,AE,AF,AK,AA 103 0,AA 103 1,AX];simp[Th.V_eq,AH]at h1 h2 h3 ⊢;refine⟨_,_,h1 _,?_⟩;by_cases b1:96 <sz
 ·have b1':96 <(sz:Int):=by omega
  rw[if_neg (by simp;omega)]at hR;simp[b1',AB,AA 103 2,AW 103,hR]
 ·have b1':¬96 <(sz:Int):=by omega
  simp[b1'];refine⟨_,_,h2 _,?_⟩;by_cases b2:8 <dp
  ·have b2':8 <(dp:Int):=by omega
   rw[if_neg (by simp;omega)]at hR;simp[b2',AB,AA 103 2,AW 103,hR]
  ·have b2':¬8 <(dp:Int):=by omega
   rw[if_pos (by simp;omega)]at hR;simp[b2',AD];simp only[AA 103 3];simp;refine⟨_,_,h3 _,?_⟩;cases g<;>simp at hR<;>simp[AA 103 4,AB,AA 103 5,AA 103 6,AW 103,hR]
end Go.Va
