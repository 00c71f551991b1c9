/- Laws that ExtractBytes leans on, part 29. No condition of its own. -/
import Derived.Test.YtopldfpkgbkomaaGreatDoorL25
set_option linter.all false
set_option maxRecDepth 100000
set_option maxHeartbeats 4000000
noncomputable section
namespace Go.Va
open Go.Proofs
section
def qS:Bool→List Nat→PI
 |true,ks=> .eqA true ks (.t 20 false) (.t 24 false)
 |false,_=> .bin .neq (.t 20 false) (.t 24 false)
def Xe:List GI:=[⟨none,.mv 4 (.c (.v (.bool false)))⟩]
def gj:List GI:=[⟨none,.mv 6 (.t 0 false)⟩,⟨none,.p 7 (.alen (.t 6 false))⟩,⟨none,.mv 8 (.t 1 false)⟩,⟨none,.p 9 (.alen (.t 8 false))⟩,⟨none,.p 10 (.bin .neq (.t 7 false) (.t 9 false))⟩]
def gi:List GI:=[⟨none,.mv 5 (.c (.v (.int .i64 0)))⟩]
def ge:List GI:=[⟨none,.mv 11 (.t 5 false)⟩,⟨none,.mv 12 (.t 0 false)⟩,⟨none,.p 13 (.alen (.t 12 false))⟩,⟨none,.p 14 (.bin .lss (.t 11 false) (.t 13 false))⟩]
def gZ (s:Nat) (g:Bool) (ks:List Nat):List GI:=[⟨none,.mv 17 (.t 0 false)⟩,⟨none,.mv 18 (.t 5 false)⟩,⟨none,.p 19 (.iaddr (.t 17 false) (.t 18 false) s)⟩,⟨none,.p 20 (.load (.t 19 false) s g)⟩,
 ⟨none,.mv 21 (.t 1 false)⟩,⟨none,.mv 22 (.t 5 false)⟩,⟨none,.p 23 (.iaddr (.t 21 false) (.t 22 false) s)⟩,⟨none,.p 24 (.load (.t 23 false) s g)⟩,⟨none,.p 25 (qS g ks)⟩]
def bE:List GI:=[⟨none,.mv 15 (.t 5 false)⟩,⟨none,.p 16 (.bin .add (.t 15 false) (.c (.v (.int .i64 1))))⟩,⟨none,.mv 5 (.t 16 false)⟩]
def gY:List GI:=[⟨none,.mv 4 (.c (.v (.bool true)))⟩]
def gk (s:Nat) (g:Bool) (ks:List Nat):AC:=(.seq (.seq (.reg ge [0,1,5,14]) (.cond (.t 14 false) .skip (.exit 0))) (.seq (.block 1 (.seq (.regD (gZ s g ks) [0,1,5,25] [[],[],[0,1],[0,1,2],[],[],[4,5],[4,5,6],[0,1,2,3,4,5,6,7]]) (.cond (.t 25 false) (.seq (.reg Xe [4]) .ret) .skip))) (.reg bE [0,1,5])))
def cS (s:Nat) (g:Bool) (ks:List Nat):AC:=(.seq (.reg Xe [0,1]) (.seq (.seq (.reg gj [0,1,10]) (.cond (.t 10 false) (.seq (.reg Xe [4]) .ret) .skip)) (.seq (.seq (.reg gi [0,1,5]) (.block 0 (.loop (gk s g ks)))) (.seq (.reg gY [4]) .ret))))
theorem px:Cq Tryz.prog An 82 2 (cS 1 false []) [.t 4]=true:=by kernel_rfl
theorem nX:Cq Tryz.prog An 172 2 (cS 1 false []) [.t 4]=true:=by kernel_rfl
theorem nW:Cq Tryz.prog An 173 2 (cS 1 false []) [.t 4]=true:=by kernel_rfl
theorem py:Cq Tryz.prog An 80 2 (cS 2 true [0,0]) [.t 4]=true:=by kernel_rfl
theorem nY:Cq Tryz.prog An 170 2 (cS 4 true [0,0,0,0]) [.t 4]=true:=by kernel_rfl
def pb (s:Nat) (g:Bool) (ks:List Nat) (x:V):Prop:=
 match g with
 |true=>∃cs,x= .agg cs∧cs.length=s∧V.eqL ks cs cs=some true
 |false=>s=1∧∃k n,x= .int k n
variable {ks:List Nat} {n:Nat}
theorem pS {s:Nat} {g:Bool} (hk:Cq Tryz.prog An n 2 (cS s g ks) [.t 4]=true) (xs:List V) (hl:xs.length≤2^40) (hx:∀x∈xs,pb s g ks x):PX n [.list xs,.list xs] [.bool true]:=by
 refine Gg hk rfl ?_;simp only[cS,AE,AG,AU,AL,Xe,gj,AV];simp[AB,gi];refine AM xs.length (λk=>⟨[(0,.v (.list xs)),(1,.v (.list xs)),(5,.v (.int .i64 k))],[]⟩) (by simp) ?_;intro k hkl;simp only[gk,AE,AG,AU,AL,ge];simp;by_cases h1:k <xs.length
 ·obtain⟨x,hxk⟩:∃x,xs[k]?=some x:=⟨_,qH h1⟩;have w1:IntKind.i64.wrap ((k:Int)+1)=k+1:=AQ;have hs:=hx x (qJ hxk);rw[if_pos (by omega),AB];simp only[AW,gZ];cases g with
  |true=>
   obtain⟨cs,rfl,hcs,hq⟩:=hs;have ht:cs.take s=cs:=qw (Nat.le_of_eq hcs);simp[hxk,hcs,ht,hq,qS];simp[AB,bE,w1,h1]
  |false=>
   obtain⟨rfl,kk,m,rfl⟩:=hs;simp[hxk,qS];simp[AB,bE,w1,h1]
 ·have hk2:k=xs.length:=by omega
  subst hk2;rw[if_neg (by omega),AJ];simp[gY,AD]
theorem jE (hk:Cq Tryz.prog An n 2 (cS 1 false []) [.t 4]=true) (k:IntKind) (l:List Int) (hl:l.length≤2^40):PX n [AH k l,AH k l] [.bool true]:=
 pS hk _ (by simpa using hl) λx hx=>by
  obtain⟨m,_,rfl⟩:=qX.1 hx;exact⟨rfl,k,m,rfl⟩
theorem jG (l:List Int) (hl:l.length≤2^40):PX 82 [AH .i64 l,AH .i64 l] [.bool true]:=jE px _ l hl
theorem dw (l:List Int) (hl:l.length≤2^40):PX 172 [AH .u64 l,AH .u64 l] [.bool true]:=jE nX _ l hl
theorem lQ (l:List Int) (hl:l.length≤2^40):PX 173 [AH .u8 l,AH .u8 l] [.bool true]:=jE nW _ l hl
theorem pA (l:List (Int×Int)) (hl:l.length≤2^40):PX 80 [.list (l.map Bh),.list (l.map Bh)] [.bool true]:=
 pS py _ (by simpa using hl) λx hx=>by
  obtain⟨m,_,rfl⟩:=qX.1 hx;exact⟨_,rfl,rfl,by simp[V.eqL,V.eq1]⟩
theorem lV (l:List Lic) (hl:l.length≤2^40):PX 170 [.list (l.map Lic.V),.list (l.map Lic.V)] [.bool true]:=
 pS nY _ (by simpa using hl) λx hx=>by
  obtain⟨m,_,rfl⟩:=qX.1 hx;exact⟨_,rfl,rfl,by simp[V.eqL,V.eq1]⟩
end
def Nj (L R S:List Int):V:= .agg [AH .u64 L,AH .u64 R,AH .u8 S]
theorem o9 (L R S:List Int) (h1:L.length≤2^40) (h2:R.length≤2^40) (h3:S.length≤2^40):PX 81 [Nj L R S,Nj L R S] [.bool true]:=by
 refine BU 81 ?_;have q1:=(dw L h1).fsp;have q2:=(dw R h2).fsp;have q3:=(lQ S h3).fsp;simp[AH]at q1 q2 q3;simp only[At 81,AE,AG,AA 81 0,AA 81 1,AV,Nj,AH];simp;refine⟨_,_,q1 _,?_⟩;simp only[AA 81 2];simp;refine⟨_,_,q2 _,?_⟩;simp only[AA 81 3];simp;refine⟨_,_,q3 _,?_⟩;simp[AA 81 4,AD,AX 81]
theorem dV (n:Int):PX 269 [.int .i64 n,.int .i64 n] [.int .i64 0]:=by
 refine BU 269 ?_;simp[At 269,awp,AA 269 0,AA 269 1,AA 269 3,AA 269 5,AX 269,AV]
theorem dW (l:List Int) (hl:l.length≤2^40):PX 268 [AH .i64 l,AH .i64 l] [.int .i64 0]:=by
 refine BU 268 ?_;have q:=(dV l.length).fsp;simp at q;simp only[At 268,AE,AG,AU,AA 268 0,AA 268 1,AV,AH];simp;refine AM l.length (λk=>⟨[(0,.v (.list (l.map (.int .i64)))),(1,.v (.list (l.map (.int .i64)))),(5,.v (.int .i64 k))],[]⟩) (by simp) ?_;intro k hkl;simp only[Zw,BA 268 0,AA 268 2];by_cases h1:k <l.length
 ·obtain⟨x,hx⟩:∃x,l[k]?=some x:=⟨_,qH h1⟩;have w1:=Bo k;have h2:(k:Int) <l.length:=by omega
  simp[h2,AB];simp only[AW,AA 268 4];simp[hx];simp[AA 268 3,w1,h1]
 ·have hk2:k=l.length:=by omega
  subst hk2;simp[AJ];simp only[AA 268 6];simp;refine⟨_,_,q _,?_⟩;simp[AD,AX 268]
def Ij (vs:List Val):List Int:=vs.flatMap λv=>[v.a,v.n,v.d]
theorem Lh (vs:List Val):(Ij vs).length=3*vs.length:=by
 unfold Ij;induction vs with
 |nil=>rfl
 |cons v vs ih=>rw[qN,qG,ih,qT];simp;omega
theorem dt (vs:List Val) (hl:vs.length≤2^30):PX 200 [.list (vs.map Val.V)] [AH .i64 (Ij vs)]:=by
 refine BU 200 ?_;simp only[At 200,AE,AG,AU,AA 200 0,AA 200 1,AA 200 2,AV,AH];simp;refine AM vs.length (λk=>⟨[(0,.v (.list (vs.map Val.V))),(3,.own 3 1 ((Ij (vs.take k)).map (.int .i64))),(4,.v (.int .i64 k))],[]⟩) (by simp[Ij]) ?_;intro k hkl;simp only[Zw,BA 200 0,AA 200 3];by_cases h1:k <vs.length
 ·obtain⟨x,hx⟩:∃x,vs[k]?=some x:=⟨_,qH h1⟩;have w1:=Bo k;have h2:(k:Int) <vs.length:=by omega
  have hn:Ij (vs.take (k+1))=Ij (vs.take k)++[x.a,x.n,x.d]:=by
   unfold Ij;rw[qc,hx,rP];rfl
  have hlen:=Lh (vs.take k);rw[qv]at hlen;rw[hn];generalize Ij (vs.take k)=L at*;have hroom:AK (L.length+3) 8=true:=by simp[AK];omega
  simp[h2,AB];simp only[AW,AA 200 5];simp[hx,Val.V,hroom];simp[AA 200 4,w1,h1]
 ·have hk2:k=vs.length:=by omega
  subst hk2;rw[qm];simp[AJ];simp[AA 200 6,AD,AX 200]
theorem lU (t:Th) (ht:t.ok):PX 171 [t.V,t.V] [.int .i64 0]:=by
 induction t using Th.ind with
 |h cs vs ps ih=>
  obtain⟨h1,h2,h3,_,h5⟩:=ht;refine BU 171 ?_;have q1:=(dW cs (by omega)).fsp;have q2:=dt vs h2;have q3:=dW (Ij vs) (by rw[Lh];omega);have q4:=(dV ps.length).fsp;simp[AH]at q1 q2 q3 q4;simp only[Zw,At 171,AA 171 0,AA 171 1,AV,Th.V_eq,AH];simp;refine⟨_,_,q1 _,?_⟩;simp[AA 171 2,AB];simp only[AW,AA 171 4];simp;refine⟨_,_,⟨rfl,rfl⟩,_,q2,?_⟩;simp;refine⟨_,_,⟨rfl,rfl⟩,_,q2,?_⟩;simp;refine⟨_,_,⟨rfl,rfl⟩,_,q3,?_⟩;simp[AA 171 5,AA 171 7];refine AM ps.length (λk=>⟨[(2,.ref 0 0),(3,.ref 1 0),(7,.v (.int .i64 k))],[.cells (Th.mk cs vs ps).cells,.cells (Th.mk cs vs ps).cells]⟩) (by simp[Th.cells,Th.cs,Th.vs,Th.ps,AH]) ?_;intro k hkl;simp only[Zw,BA 171 0,AA 171 8,Th.cells,Th.cs,Th.vs,Th.ps,AH];by_cases h1:k <ps.length
  ·obtain⟨x,hx⟩:∃x,ps[k]?=some x:=⟨_,qH h1⟩;have w1:=Bo k;have h2:(k:Int) <ps.length:=by omega
   have qx:=ih x (qJ hx) (h5 x (qJ hx));obtain⟨a,b,c⟩:=x;simp only[Th.V_eq,AH]at qx;simp[h2,AB];simp only[AW,AA 171 10];simp[hx,Th.V_eq,AH];refine⟨_,_,⟨rfl,rfl⟩,_,qx,?_⟩;simp[AA 171 11,AA 171 9,w1,h1]
  ·have hk2:k=ps.length:=by omega
   subst hk2;simp[AJ];simp only[AA 171 13];simp;refine⟨_,_,q4 _,?_⟩;simp[AD,AX 171]
theorem pB (t:Th) (ht:t.ok):PX 79 [t.V,t.V] [.bool true]:=by
 refine BU 79 ?_;have q1:=(lU t ht).fsp;obtain⟨cs,vs,ps⟩:=t;simp only[At 79,AE,AG,AA 79 0,AA 79 1,AV];simp only[Th.V_eq,AH]at*;simp at q1;simp;refine⟨_,_,q1 _,?_⟩;simp[AD,AX 79]
mutual
def Th.size:Th→Nat| .mk _ _ ps=>1+Th.sizes ps
def Th.sizes:List Th→Nat|[]=>0|k::ks=>k.size+Th.sizes ks
end
mutual
def Th.depth:Th→Nat| .mk _ _ ps=>Th.depths ps+1
def Th.depths:List Th→Nat|[]=>0|k::ks=>max k.depth (Th.depths ks)
end
theorem Th.size_pos (t:Th):1≤t.size:=by cases t;rw[Th.size];omega
variable {k:Nat}
theorem Th.sizes_take {l:List Th} {x:Th} (hx:l[k]?=some x):Th.sizes (l.take (k+1))=Th.sizes (l.take k)+x.size∧Th.depths (l.take (k+1))=max (Th.depths (l.take k)) x.depth∧Th.sizes (l.take (k+1))≤Th.sizes l:=by
 induction l generalizing k with
 |nil=>simp at hx
 |cons y l ih=>
  cases k with
  |zero=>simp at hx;subst hx;simp[Th.sizes,Th.depths]
  |succ k=>simp at hx;have:=ih hx;simp only[tb,Th.sizes,Th.depths];omega
theorem Th.sizes_le {l:List Th} {x:Th} (hx:x∈l):x.size≤Th.sizes l:=by
 induction l with
 |nil=>cases hx
 |cons y l ih=>
  rw[Th.sizes];cases hx with
  |head=>omega
  |tail _ h=>have:=ih h;omega
theorem Th.depths_le (l:List Th) (h:∀x∈l,x.depth≤x.size):Th.depths l≤Th.sizes l:=by
 induction l with
 |nil=>simp[Th.depths]
 |cons k ks ih=>
  have:=h k (by simp);have:=ih λx hx=>h x (by simp[hx]);simp only[Th.depths,Th.sizes];omega
theorem Th.depth_le:∀t:Th,t.depth≤t.size:=by
 refine Th.ind λcs vs ps ih=>?_;have:=Th.depths_le ps ih;rw[Th.size,Th.depth];omega
theorem Th.len_le (l:List Th):l.length≤Th.sizes l:=by
 induction l with
 |nil=>simp
 |cons k ks ih=>have:=k.size_pos;simp only[Th.sizes,qT];omega
theorem Th.nds_of (l:List Th) (h:∀x∈l,∀lv lf:Int,x.nd lv lf=if lv+x.depth≤9∧x.size≤lf then lf-x.size else -1):∀lv lf:Int,lv≤9→0≤lf→Th.nds l lv lf=if lv+Th.depths l≤9∧Th.sizes l≤lf then lf-Th.sizes l else -1:=by
 induction l with
 |nil=>intro lv lf h1 h2;simp[Th.nds,Th.depths,Th.sizes,h1,h2]
 |cons x xs ih=>
  intro lv lf h1 h2;have hx:=h x (by simp) lv lf;have hp:=x.size_pos;rw[Th.nds,hx];have e1:Th.depths (x::xs)=max x.depth (Th.depths xs):=rfl;have e2:Th.sizes (x::xs)=x.size+Th.sizes xs:=rfl;by_cases c1:lv+x.depth≤9∧x.size≤lf
  ·rw[if_pos c1,if_neg (by omega),ih (λy hy=>h y (by simp[hy])) lv _ h1 (by omega)];by_cases c2:lv+Th.depths xs≤9∧Th.sizes xs≤lf-x.size
   ·rw[if_pos c2,if_pos (by omega)];omega
   ·rw[if_neg c2,if_neg (by omega)]
  ·rw[if_neg c1,if_pos (by omega),if_neg (by omega)]
theorem Th.nd_of:∀(t:Th) (lv lf:Int),t.nd lv lf=if lv+t.depth≤9∧t.size≤lf then lf-t.size else -1:=by
 refine Th.ind λcs vs ps ih lv lf=>?_;rw[Th.nd,Th.size,Th.depth];by_cases c1:8 <lv∨lf <1
 ·rw[if_pos c1,if_neg (by omega)]
 ·rw[if_neg c1,Th.nds_of ps ih _ _ (by omega) (by omega)];by_cases c2:lv+1+Th.depths ps≤9∧Th.sizes ps≤lf-1
  ·rw[if_pos c2,if_pos (by omega)];omega
  ·rw[if_neg c2,if_neg (by omega)]
theorem Nv (t:Th):Qr t=decide (t.depth≤8∧t.size≤96):=by
 have:=t.size_pos;unfold Qr;rw[t.nd_of];by_cases c:t.depth≤8∧t.size≤96
 ·rw[if_pos (by omega)];simp[c];omega
 ·rw[if_neg (by omega)];simp;omega
theorem lK:∀t:Th,t.size≤2^40→PX 195 [t.V] [.int .i64 t.size]:=by
 refine Th.ind λcs vs ps ih hsz=>?_;refine BU 195 ?_;rw[Th.size]at hsz ⊢;have hkl:=Th.len_le ps;simp only[At 195,AE,AG,AU,AA 195 0,AA 195 1,AA 195 2,AV];simp[Th.V_eq];refine AM ps.length (λk=>⟨[(1,.ref 0 0),(3,.v (.int .i64 (1+Th.sizes (ps.take k):Nat))),(4,.v (.int .i64 k))],[.cells (Th.mk cs vs ps).cells]⟩) (by simp[Th.cells,Th.cs,Th.vs,Th.ps,Th.sizes]) ?_;intro k hk;simp only[Zw,BA 195 0,AA 195 3,Th.cells,Th.cs,Th.vs,Th.ps];simp;by_cases h1:k <ps.length
 ·obtain⟨x,hx⟩:∃x,ps[k]?=some x:=⟨_,qH h1⟩;have hxm:=qJ hx;have hw:=Bo k;have hxs:=Th.sizes_le hxm;have p1:=(ih x hxm (by omega)).fsp;obtain⟨t1,_,t3⟩:=Th.sizes_take hx;have hw2:IntKind.i64.wrap (1+(Th.sizes (ps.take k):Int)+x.size)=1+(Th.sizes (ps.take (k+1)):Int):=by
   rw[AQ];omega
  rw[if_pos (by omega),AB];simp only[AA 195 4,AA 195 5];obtain⟨xc,xv,xp⟩:=x;simp[Th.V_eq]at p1;simp[hx,Th.V_eq];refine⟨_,_,p1 _,?_⟩;simp[hw,hw2,h1]
 ·have hk2:k=ps.length:=by omega
  subst hk2;rw[if_neg (by omega),AJ];simp[AD,AA 195 6,AX 195]
theorem lJ:∀t:Th,t.size≤2^40→PX 196 [t.V] [.int .i64 t.depth]:=by
 refine Th.ind λcs vs ps ih hsz=>?_;refine BU 196 ?_;rw[Th.size]at hsz;have hkl:=Th.len_le ps;have hdl:=Th.depths_le ps λx _=>x.depth_le;simp only[At 196,AE,AG,AU,AA 196 0,AA 196 1,AA 196 2,AV];simp[Th.V_eq];refine AM ps.length (λk=>⟨[(1,.ref 0 0),(3,.v (.int .i64 (Th.depths (ps.take k)))),(4,.v (.int .i64 k))],[.cells (Th.mk cs vs ps).cells]⟩) (by simp[Th.cells,Th.cs,Th.vs,Th.ps,Th.depths]) ?_;intro k hk;simp only[Zw,BA 196 0,AA 196 3,Th.cells,Th.cs,Th.vs,Th.ps];simp;by_cases h1:k <ps.length
 ·obtain⟨x,hx⟩:∃x,ps[k]?=some x:=⟨_,qH h1⟩;have hxm:=qJ hx;have hw:=Bo k;have hxs:=Th.sizes_le hxm;have p1:=(ih x hxm (by omega)).fsp;obtain⟨_,ht,_⟩:=Th.sizes_take hx;rw[if_pos (by omega),AB];simp only[AA 196 4,AA 196 5];obtain⟨xc,xv,xp⟩:=x;simp[Th.V_eq]at p1;simp[hx,Th.V_eq];refine⟨_,_,p1 _,?_⟩;simp[hw,h1,ht];split<;>omega
 ·have hk2:k=ps.length:=by omega
  subst hk2;rw[if_neg (by omega),AJ];have hw2:IntKind.i64.wrap ((Th.depths ps:Int)+1)=Th.depths ps+1:=AQ;simp[AD,AA 196 6,AX 196,hw2,Th.depth]
theorem mt (m:Nat):∀(a b:Int),b≤m→0≤a→0≤b→a≤2^62→b≤2^62→
  awp Tryz.prog An (.loop (lG 319 0)) (λe s=>e= .exit 0∧AF s.e 0= .v (.int .i64 (Int.gcd a b))) ⟨[(0,.v (.int .i64 a)),(1,.v (.int .i64 b))],[]⟩:=by
 induction m with
 |zero=>
  intro a b hb h1 h2 h3 h4;have:b=0:=by omega
  subst this;refine Aa ?_;simp only[Zw,BA 319 0,AA 319 1];simp[AJ];omega
 |succ m ih=>
  intro a b hb h1 h2 h3 h4;by_cases h0:b=0
  ·exact ih a b (by omega) h1 h2 h3 h4
  ·have e:a.tmod b=a%b:=tx h1;have hlt:=Int.emod_lt_of_pos a (show 0 <b by omega);have hge:=Int.emod_nonneg a h0;have hih:=ih b (a%b) (by omega) h2 hge h4 (by omega);have e2:Int.gcd b (a%b)=Int.gcd a b:=by
    rw[←e];unfold Int.gcd;rw[Int.natAbs_tmod,Nat.gcd_comm,←Nat.gcd_rec,Nat.gcd_comm]
   rw[e2]at hih;refine A5 ?_ hih;simp only[Zw,BA 319 0,AA 319 1];have w1:IntKind.i64.wrap (a%b)=a%b:=AQ;have hpos:0 <b:=by omega
   simp[AB,AA 319 2,AA 319 3,AA 319 4,e,h0,hpos]
theorem je (a b:Int) (h1:0≤a) (h2:0≤b) (h3:a≤2^62) (h4:b≤2^62):PX 319 [.int .i64 a,.int .i64 b] [.int .i64 (Int.gcd a b)]:=by
 refine BU 319 ?_;simp only[At 319,AE,AU,AG,AA 319 0,AV];simp;refine AZ _ ?_ (mt b.toNat a b (by omega) h1 h2 h3 h4);rintro e s ⟨rfl,h⟩;simp[AA 319 5,h,AD,AX 319]
theorem kA (x:Val) (hx:x.ok):PX 281 [BL x.n x.d] [.bool (DC x)]:=by
 refine BU 281 ?_;simp only[At 281,AE,AG,AL,AA 281 0,AA 281 1,AV];unfold DC En;obtain⟨a,n,d⟩:=x;simp only;by_cases b1:d <1
 ·simp[BL,b1,AD,AA 281 2,AX 281]<;>omega
 by_cases b2:65536 <d
 ·simp[BL,b1,b2,AD,AA 281 2,AX 281]<;>omega
 by_cases b4:n < -1099511627776
 ·simp[BL,b1,b2,b4,AD,AA 281 2,AX 281]<;>omega
 by_cases b3:1099511627776 <n
 ·simp[BL,b1,b2,b3,b4,AD,AA 281 2,AX 281]<;>omega
 have hw:IntKind.i64.wrap (-n)= -n:=AQ;simp[BL,b1,b2,b3,b4,AB];simp only[AA 281 3];simp[hw];have hg:Int.gcd (if n < -n then -n else n) d=Int.gcd n d:=by split<;>simp
 have q:=(je (if n < -n then -n else n) d (by split<;>omega) (by omega) (by split<;>omega) (by omega)).fsp
 rw[hg]at q;refine⟨_,_,q _,?_⟩;simp[AD,AX 281];rw[sL];simp;omega
theorem fV (cs:List Int) (vs:List Val) (ps:List Th) (hn:cs.length≤2^40) (Q:AExit→St→Prop)
  (hr:∀e h,Ec cs 64=false→AF e 2= .v (.bool false)→Q .ret ⟨e,h⟩)
  (hs:∀e h,Ec cs 64=true→AF e 1= .ref 0 0→h=[.cells (Th.mk cs vs ps).cells]→Q (.exit 0) ⟨e,h⟩):
  awp Tryz.prog An (.loop (lG 197 0)) Q ⟨[(1,.ref 0 0),(3,.v (.int .i64 0))],[.cells (Th.mk cs vs ps).cells]⟩:=by
 refine Ao cs.length (λk=>⟨[(1,.ref 0 0),(3,.v (.int .i64 k))],[.cells (Th.mk cs vs ps).cells]⟩) (λk=>∀j <k,DA cs 64 j=false) (by simp) (by omega) ?_;intro k hk hI;simp only[Zw,BA 197 0,AA 197 2,Th.cells,Th.cs,Th.vs,Th.ps,AH];simp;by_cases h1:k <cs.length
 ·obtain⟨x,hx⟩:∃x,cs[k]?=some x:=⟨_,qH h1⟩;have hw:=Bo k;have hb:DA cs 64 k=true↔(x <0∨64≤x∨(0 <k∧x≤cs.getD (k-1) 0)):=by unfold DA;rw[decide_eq_true_iff];simp[List.getD,hx]
  have hf:¬(x <0∨64≤x∨(0 <k∧x≤cs.getD (k-1) 0))→DA cs 64 k=false:=λh=>by
   cases h':DA cs 64 k with
   |true=>exact absurd (hb.1 h') h
   |false=>rfl
  have ret:DA cs 64 k=true→Ec cs 64=false:=λh=>by unfold Ec;rw[ER h1 h];rfl
  have go:DA cs 64 k=false→∀j <k+1,DA cs 64 j=false:=λh j hj=>by
   rcases qi j k with h'|h'
   ·exact hI j h'
   ·have:j=k:=by omega
    subst this;exact h
  rw[if_pos (by omega),AB];simp only[AA 197 4,AA 197 5];simp[hx];by_cases b1:x <0
  ·simp[b1,AD,AA 197 6];exact hr _ _ (ret (hb.2 (.inl b1))) rfl
  ·by_cases b2:63 <x
   ·simp[b1,b2,AD,AA 197 6];exact hr _ _ (ret (hb.2 (.inr (.inl (by omega))))) rfl
   ·cases k with
    |zero=>
     have hbf:DA cs 64 0=false:=hf (by omega);have hw1:IntKind.i64.wrap 1=1:=rfl;simp[hw1,b1,b2,AB,AA 197 3,h1,hbf]
    |succ j=>
     have hw3:IntKind.i64.wrap (j:Int)=j:=AQ;have hpos:(0:Int) <(j:Int)+1:=by omega
     obtain⟨y,hy⟩:∃y,cs[j]?=some y:=⟨_,qH (by omega)⟩;simp only[rQ,Int.cast_ofNat_Int]at hw;by_cases b3:x≤y
     ·simp[b1,b2,b3,hw3,hy,AD,AA 197 6];exact hr _ _ (ret (hb.2 (.inr (.inr ⟨by omega,by simp[List.getD,hy,b3]⟩)))) rfl
     ·have hbf:DA cs 64 (j+1)=false:=hf (by simp[List.getD,hy];omega);simp[b1,b2,b3,hw3,hy,AB,AA 197 3,hw,h1];exact go hbf
 ·have hk2:k=cs.length:=by omega
  subst hk2;rw[if_neg (by omega),AJ];refine hs _ _ ?_ rfl rfl;unfold Ec;rw[Fi hI];rfl
theorem fU (cs:List Int) (vs:List Val) (ps:List Th) (hn:vs.length≤2^40) (hv:∀x∈vs,Val.ok x) (Q:AExit→St→Prop)
  (hr:∀e h,(vs.all DC&&Ec (vs.map Val.a) 32)=false→AF e 2= .v (.bool false)→Q .ret ⟨e,h⟩)
  (hs:∀e J,(vs.all DC&&Ec (vs.map Val.a) 32)=true→AF e 1= .ref 0 0→Q (.exit 2) ⟨e,.cells (Th.mk cs vs ps).cells::J⟩):
  awp Tryz.prog An (.loop (lG 197 1)) Q ⟨[(1,.ref 0 0),(5,.v (.int .i64 0))],[.cells (Th.mk cs vs ps).cells]⟩:=by
 refine Al vs.length (λk s=>∃J,s=⟨[(1,.ref 0 0),(5,.v (.int .i64 k))],.cells (Th.mk cs vs ps).cells::J⟩∧(vs.take k).all DC=true∧∀j <k,DA (vs.map Val.a) 32 j=false) ⟨[],by simp,rfl,by omega⟩ ?_;rintro k s hk ⟨J,rfl,hA,hI⟩;simp only[Zw,BA 197 1,AA 197 8,Th.cells,Th.cs,Th.vs,Th.ps,AH];simp;by_cases h1:k <vs.length
 ·obtain⟨x,hx⟩:∃x,vs[k]?=some x:=⟨_,qH h1⟩;have hxm:=qJ hx;have hw:=Bo k;have q:=(kA x (hv x hxm)).fsp;have hxa:(vs.map Val.a)[k]?=some x.a:=by rw[qZ,hx];rfl
  have hb:DA (vs.map Val.a) 32 k=true↔(x.a <0∨32≤x.a∨(0 <k∧x.a≤(vs.map Val.a).getD (k-1) 0)):=by unfold DA;rw[decide_eq_true_iff];simp[List.getD,hx]
  have hf:¬(x.a <0∨32≤x.a∨(0 <k∧x.a≤(vs.map Val.a).getD (k-1) 0))→DA (vs.map Val.a) 32 k=false:=λh=>by
   cases h':DA (vs.map Val.a) 32 k with
   |true=>exact absurd (hb.1 h') h
   |false=>rfl
  have ret:DA (vs.map Val.a) 32 k=true→(vs.all DC&&Ec (vs.map Val.a) 32)=false:=λh=>by unfold Ec;rw[ER (by simpa using h1) h];simp
  have ret2:DC x=false→(vs.all DC&&Ec (vs.map Val.a) 32)=false:=λh=>by
   have:vs.all DC=false:=by rw[List.all_eq_false];exact⟨x,hxm,by simp[h]⟩
   rw[this];rfl
  have go:DA (vs.map Val.a) 32 k=false→∀j <k+1,DA (vs.map Val.a) 32 j=false:=λh j hj=>by
   rcases qi j k with h'|h'
   ·exact hI j h'
   ·have:j=k:=by omega
    subst this;exact h
  have goA:DC x=true→(vs.take (k+1)).all DC=true:=λh=>by
   rw[qc,hx,List.all_append,hA];simp[h]
  generalize DC x=g at*;obtain⟨xa,xn,xd⟩:=x;simp only[BL]at q hb hf hxa;rw[if_pos (by omega),AB];simp only[AA 197 10,AA 197 11];simp at q;simp[hx,Val.V,AS];refine⟨_,_,q _,?_⟩;simp only[AW,AA 197 12];cases g with
  |false=>
   simp[AD,AA 197 13];exact hr _ _ (ret2 rfl) rfl
  |true=>
   have goA:=goA rfl;simp only[qV]at goA;simp;by_cases b1:xa <0
   ·simp[b1,AD,AA 197 13];exact hr _ _ (ret (hb.2 (.inl b1))) rfl
   ·have b1':0≤xa:=by omega
    by_cases b2:31 <xa
    ·simp[b1,b1',b2,AD,AA 197 13];exact hr _ _ (ret (hb.2 (.inr (.inl (by omega))))) rfl
    ·cases k with
     |zero=>
      have hbf:DA (vs.map Val.a) 32 0=false:=hf (by omega);have hw1:IntKind.i64.wrap 1=1:=rfl;simp[hw1,b1,b1',b2,AB,AA 197 9,h1,hbf];exact goA
     |succ j=>
      have hw3:IntKind.i64.wrap (j:Int)=j:=AQ;have hpos:(0:Int) <(j:Int)+1:=by omega
      obtain⟨y,hy⟩:∃y,vs[j]?=some y:=⟨_,qH (by omega)⟩;simp only[rQ,Int.cast_ofNat_Int]at hw;by_cases b3:xa≤y.a
      ·simp[b1,b1',b2,b3,hw3,hy,Val.V,AD,AA 197 13];exact hr _ _ (ret (hb.2 (.inr (.inr ⟨by omega,by simp[List.getD,hy,b3]⟩)))) rfl
      ·have hbf:DA (vs.map Val.a) 32 (j+1)=false:=hf (by simp[List.getD,hy];omega);simp[b1,b1',b2,b3,hw3,hy,Val.V,AB,AA 197 9,hw,h1];exact⟨goA,go hbf⟩
 ·have hk2:k=vs.length:=by omega
  subst hk2;rw[if_neg (by omega),AJ];rw[qm]at hA;refine hs _ _ ?_ rfl;unfold Ec;rw[hA,Fi (by simpa using hI)];rfl
theorem fS (cs:List Int) (vs:List Val) (ps:List Th) (hn:ps.length≤2^40) (ih:∀p∈ps,PX 197 [p.V] [.bool p.formed]) (J:List Row) (Q:AExit→St→Prop)
  (hr:∀e h,ps.all Th.formed=false→AF e 2= .v (.bool false)→Q .ret ⟨e,h⟩)
  (hs:∀e h,ps.all Th.formed=true→Q (.exit 4) ⟨e,h⟩):
  awp Tryz.prog An (.loop (lG 197 2)) Q ⟨[(1,.ref 0 0),(8,.v (.int .i64 0))],.cells (Th.mk cs vs ps).cells::J⟩:=by
 refine Ao ps.length (λk=>⟨[(1,.ref 0 0),(8,.v (.int .i64 k))],.cells (Th.mk cs vs ps).cells::J⟩) (λk=>∀x∈ps.take k,x.formed=true) (by simp) (by simp) ?_;intro k hk hI;simp only[Zw,BA 197 2,AA 197 15,Th.cells,Th.cs,Th.vs,Th.ps,AH];simp;by_cases h1:k <ps.length
 ·obtain⟨x,hx⟩:∃x,ps[k]?=some x:=⟨_,qH h1⟩;have hxm:=qJ hx;have hw:=Bo k;have q:=(ih x hxm).fsp;have bad:x.formed=false→ps.all Th.formed=false:=λh=>by rw[List.all_eq_false];exact⟨x,hxm,by simp[h]⟩
  have good:x.formed=true→∀y∈ps.take (k+1),y.formed=true:=λh y hy=>by
   rw[qc,hx]at hy;simp at hy;rcases hy with hy|rfl
   ·exact hI y hy
   ·exact h
  generalize x.formed=g at*;obtain⟨xc,xv,xp⟩:=x;simp[Th.V_eq,AH]at q;rw[if_pos (by omega),AB];simp only[AA 197 17];simp[hx,Th.V_eq,AH];refine⟨_,_,q _,?_⟩;simp only[AA 197 18];cases g with
  |false=>
   simp[AD,AA 197 19];exact hr _ _ (bad rfl) rfl
  |true=>
   simp[AB,AA 197 16,hw,h1];exact good rfl
 ·have hk2:k=ps.length:=by omega
  subst hk2;rw[if_neg (by omega),AJ];refine hs _ _ ?_;rw[qV];simpa using hI
theorem lI:∀t:Th,t.ok→PX 197 [t.V] [.bool t.formed]:=by
 refine Th.ind λcs vs ps ih hok=>?_;obtain⟨ok1,ok2,ok3,ok4,ok5⟩:=hok;refine BU 197 ?_;obtain⟨R,hR⟩:∃R,(Th.mk cs vs ps).formed=R:=⟨_,rfl⟩;rw[hR];rw[Th.formed,Er]at hR;have q1:=fV cs vs ps (by omega);have q2:=fU cs vs ps (by omega) ok4;have q3:=fS cs vs ps (by omega) λp hp=>ih p hp (ok5 p hp);simp only[Th.cells,Th.cs,Th.vs,Th.ps]at q1 q2 q3;simp only[At 197,AE,AG,AU,AA 197 0,AA 197 1,AV];simp[Th.V_eq];refine q1 _ ?_ ?_
 ·intro e h a1 a2;rw[a1]at hR;simp at hR;simp[a2,AX 197,hR]
 ·intro e h a1 a2 a3;subst a3;rw[a1]at hR;simp[AA 197 7,a2];refine q2 _ ?_ ?_
  ·intro e h a1 a2;have:R=false:=by
    rw[←hR,rC,←Bool.and_assoc,a1];rfl
   simp[a2,AX 197,this]
  ·intro e J a1 a2;have hR2:ps.all Th.formed=R:=by
    rw[←hR,rC,←Bool.and_assoc,a1,rC]
   simp[AA 197 14,a2];refine q3 _ _ ?_ ?_
   ·intro e h a1 a2;rw[a1]at hR2;simp[a2,AX 197,hR2]
   ·intro e h a1;rw[a1]at hR2;simp[AD,AA 197 20,AX 197,hR2]
theorem Zo (t:Th) (h:t.ok) (hs:t.size≤2^40):PX 103 [t.V] [.int .i64 (F5 t)]:=by
 refine BU 103 ?_;obtain⟨R,hR⟩:∃R,F5 t=R:=⟨_,rfl⟩;rw[hR];unfold F5 at hR;rw[Nv]at hR;have h1:=(lK t hs).fsp;have h2:=(lJ t hs).fsp;have h3:=(lI t h).fsp;generalize t.size=sz at*;generalize t.depth=dp at*;generalize t.formed=g at*;obtain⟨cs,vs,ps⟩:=t;simp only[At 103,AE,AG,AL,AA 103 0,AA 103 1,AV];simp[Th.V_eq,AH]at h1 h2 h3 ⊢;refine⟨_,_,h1 _,?_⟩;by_cases b1:96 <sz
 ·have b1':96 <(sz:Int):=by omega
  rw[if_neg (by simp;omega)]at hR;simp[b1',AD,AA 103 2,AX 103,hR]
 ·have b1':¬96 <(sz:Int):=by omega
  simp[b1'];refine⟨_,_,h2 _,?_⟩;by_cases b2:8 <dp
  ·have b2':8 <(dp:Int):=by omega
   rw[if_neg (by simp;omega)]at hR;simp[b2',AD,AA 103 2,AX 103,hR]
  ·have b2':¬8 <(dp:Int):=by omega
   rw[if_pos (by simp;omega)]at hR;simp[b2',AB];simp only[AA 103 3];simp;refine⟨_,_,h3 _,?_⟩;cases g<;>simp at hR<;>simp[AA 103 4,AD,AA 103 5,AA 103 6,AX 103,hR]
def MX (x:Ivl):List Int:=[E4 x.li,E4 x.lo,x.ln,x.ld,E4 x.hi,E4 x.ho,x.hn,x.hd]
def Uf (f:F):List Int:=[f.op,f.n,f.ins.length]++f.ins.flatMap MX++[(f.kids.length:Int)]
theorem Lf (l:List Ivl):(l.flatMap MX).length=8*l.length:=by
 induction l with
 |nil=>rfl
 |cons v vs ih=>rw[qN,qG,ih,qT];simp[MX];omega
theorem jX (f:F) (hl:f.ins.length≤2^20):PX 336 [f.V] [AH .i64 (Uf f)]:=by
 refine BU 336 ?_;obtain⟨op,n,ins,kids⟩:=f;simp only[F.ins]at hl;simp only[At 336,AE,AG,AU,AA 336 0,AA 336 1,AA 336 2,AV,AH,F.V_eq];simp;refine AM ins.length (λk=>⟨[(1,.ref 0 0),(3,.own 3 1 ((op::n::(ins.length:Int)::(ins.take k).flatMap MX).map (.int .i64))),(4,.v (.int .i64 k))],.cells [.v (.int .i64 op),.v (.int .i64 n),.v (.list (ins.map Ivl.V)),.v (.list (kids.map F.V))]::(ins.take k).map Ivl.row⟩) (by simp) ?_;intro k hkl;simp only[Zw,BA 336 0,AA 336 3];by_cases h1:k <ins.length
 ·obtain⟨x,hx⟩:∃x,ins[k]?=some x:=⟨_,qH h1⟩;have w1:=Bo k;have h2:(k:Int) <ins.length:=by omega
  have hn:(ins.take (k+1)).flatMap MX=(ins.take k).flatMap MX++MX x:=by
   rw[qc,hx,rP];simp
  have hlen:=Lf (ins.take k);rw[qv]at hlen;rw[hn];have hn2:(ins.take (k+1)).map Ivl.row=(ins.take k).map Ivl.row++[x.row]:=by
   rw[qc,hx,qh];rfl
  have hlen2:((ins.take k).map Ivl.row).length=k:=by rw[qr,qv];omega
  rw[hn2];generalize (ins.take k).flatMap MX=L at*;generalize (ins.take k).map Ivl.row=H at*;have g1:=O8 x.li;have g2:=O8 x.lo;have g3:=O8 x.hi;have g4:=O8 x.ho;have hroom:AK (L.length+3+8) 8=true:=by simp[AK];omega
  simp[h2,AB];simp only[AW,AA 336 5,AA 336 6];simp[hx,Ivl.V,AS];refine⟨_,_,⟨rfl,rfl⟩,_,g1,?_⟩;simp;refine⟨_,_,⟨rfl,rfl⟩,_,g2,?_⟩;simp;refine⟨_,_,⟨rfl,rfl⟩,_,g3,?_⟩;simp;refine⟨_,_,⟨rfl,rfl⟩,_,g4,?_⟩;simp[hroom,AA 336 4,w1,h1,MX,Ivl.row]
 ·have hk2:k=ins.length:=by omega
  subst hk2;rw[qm];have hlen:=Lf ins;simp only[Uf,F.op,F.n,F.ins,F.kids];generalize ins.flatMap MX=L at*;have hroom:AK (L.length+1+1+1+1) 8=true:=by simp[AK];omega
  simp[AJ];simp[AA 336 7,AD,AX 336,hroom]
theorem nf:Cq Tryz.prog An 168 2 (cS 4 true [0,0,0,0]) [.t 4]=true:=by kernel_rfl
theorem nZ:Cq Tryz.prog An 169 2 (cS 3 true [0,0,0]) [.t 4]=true:=by kernel_rfl
theorem lX (l:List Dat) (hl:l.length≤2^40):PX 168 [.list (l.map Dat.V),.list (l.map Dat.V)] [.bool true]:=
 pS nf _ (by simpa using hl) λx hx=>by
  obtain⟨m,_,rfl⟩:=qX.1 hx;exact⟨_,rfl,rfl,by simp[V.eqL,V.eq1]⟩
theorem lW (l:List Own) (hl:l.length≤2^40):PX 169 [.list (l.map Own.V),.list (l.map Own.V)] [.bool true]:=
 pS nZ _ (by simpa using hl) λx hx=>by
  obtain⟨m,_,rfl⟩:=qX.1 hx;exact⟨_,rfl,rfl,by simp[V.eqL,V.eq1]⟩
def F.sm (f:F):Prop:=∀g∈f.nodes,g.ins.length≤2^20∧g.kids.length≤2^20
theorem jg (f:F):f.sm→PX 315 [f.V,f.V] [.int .i64 0]:=by
 induction f using F.ind with
 |h op n ins kids ih=>
  intro hf;have hf0:=hf (.mk op n ins kids) (by rw[F.nodes_eq];exact tG);refine BU 315 ?_;have q:=(jX (.mk op n ins kids) hf0.1).fsp;have hlen:(Uf (.mk op n ins kids)).length≤2^30:=by
   have h1:=Lf ins;have h2:=hf0.1;simp only[Uf,qG,F.ins,h1]at h2 ⊢;simp only[qT,ra];omega
  generalize Uf (.mk op n ins kids)=L at*;simp only[F.V_eq,AH]at*;simp at q;simp only[At 315,AE,AG,AU,AA 315 0,AA 315 1,AV];simp;refine⟨_,_,q _,?_⟩;simp only[AA 315 2];simp;refine⟨_,_,q _,?_⟩;simp only[AA 315 3];simp;refine AM L.length (λk=>⟨[(2,.ref 0 0),(3,.ref 1 0),(5,.v (.list (L.map (.int .i64)))),(6,.v (.list (L.map (.int .i64)))),(7,.v (.int .i64 k))],
   [.cells [.v (.int .i64 op),.v (.int .i64 n),.v (.list (ins.map Ivl.V)),.v (.list (kids.map F.V))],.cells [.v (.int .i64 op),.v (.int .i64 n),.v (.list (ins.map Ivl.V)),.v (.list (kids.map F.V))]]⟩) (by simp) ?_
  intro k hkl;simp only[Zw,BA 315 0,AA 315 4];by_cases h1:k <L.length
  ·obtain⟨x,hx⟩:∃x,L[k]?=some x:=⟨_,qH h1⟩;have w1:=Bo k;have h2:(k:Int) <L.length:=by omega
   simp[h2,AB];simp only[AW,AA 315 6];simp[hx];simp only[AA 315 8];simp[hx];simp[AA 315 5,w1,h1]
  ·have hk2:k=L.length:=by omega
   subst hk2;simp[AJ];simp[AA 315 10];refine AM kids.length (λk=>⟨[(2,.ref 0 0),(3,.ref 1 0),(8,.v (.int .i64 k))],
    [.cells [.v (.int .i64 op),.v (.int .i64 n),.v (.list (ins.map Ivl.V)),.v (.list (kids.map F.V))],.cells [.v (.int .i64 op),.v (.int .i64 n),.v (.list (ins.map Ivl.V)),.v (.list (kids.map F.V))]]⟩) (by simp) ?_
   intro k hkl;simp only[Zw,BA 315 1,AA 315 11];by_cases h1:k <kids.length
   ·obtain⟨x,hx⟩:∃x,kids[k]?=some x:=⟨_,qH h1⟩;have hxm:=qJ hx;have hle:=hf0.2;simp only[F.kids]at hle;have w1:=Bo k;have h2:(k:Int) <kids.length:=by omega
    have qx:=ih x hxm λg hg=>hf g (by rw[F.nodes_eq];exact sa _ (rM.2 ⟨x,hxm,hg⟩));obtain⟨xo,xn,xi,xk⟩:=x;simp only[F.V_eq]at qx;simp[h2,AB];simp only[AW,AA 315 13];simp[hx,F.V_eq];refine⟨_,_,⟨rfl,rfl⟩,_,qx,?_⟩;simp[AA 315 14,AA 315 12,w1,h1]
   ·have hk2:k=kids.length:=by omega
    subst hk2;simp[AJ];simp[AA 315 16,AD,AX 315]
theorem kE (f:F) (hf:f.sm):PX 267 [f.V,f.V] [.bool true]:=by
 refine BU 267 ?_;have q:=(jg f hf).fsp;obtain⟨op,n,ins,kids⟩:=f;simp only[F.V_eq]at*;simp at q;simp only[At 267,AE,AG,AA 267 0,AA 267 1,AV];simp;refine⟨_,_,q _,?_⟩;simp[AD,AX 267]
theorem lY (l:List Clm) (hl:l.length≤2^40) (h:∀c∈l,c.refs.length≤2^40∧c.body.sm):PX 167 [.list (l.map Clm.V),.list (l.map Clm.V)] [.bool true]:=by
 refine BU 167 ?_;simp only[Zw,At 167,AA 167 0,AA 167 1,AV];simp[AB,AA 167 3];refine AM l.length (λk=>⟨[(0,.v (.list (l.map Clm.V))),(1,.v (.list (l.map Clm.V))),(5,.v (.int .i64 k))],[]⟩) (by simp) ?_;intro k hkl;simp only[Zw,BA 167 0,AA 167 4];simp;by_cases h1:k <l.length
 ·obtain⟨x,hxk⟩:∃x,l[k]?=some x:=⟨_,qH h1⟩;have w1:=Bo k;obtain⟨hr,hb⟩:=h x (qJ hxk);have q1:=jG x.refs hr;have q2:=kE x.body hb;obtain⟨refs,op,n,ins,kids⟩:=x;simp only[F.V_eq,AH]at*;rw[if_pos (by omega),AB];simp only[AW,AA 167 6];simp[hxk,Clm.V,F.op,F.n,F.ins,F.kids,AH];refine⟨_,_,⟨rfl,rfl⟩,_,q1,?_⟩;simp[hxk,Clm.V,F.op,F.n,F.ins,F.kids,AH];refine⟨_,_,⟨rfl,rfl⟩,_,q2,?_⟩;simp[AB,AA 167 5,w1,h1]
 ·have hk2:k=l.length:=by omega
  subst hk2;rw[if_neg (by omega),AJ];simp[AA 167 8,AD,AX 167]
theorem pC (r:Rgt) (h1:r.claims.length≤2^40) (h2:∀c∈r.claims,c.refs.length≤2^40∧c.body.sm) (h3:r.dates.length≤2^40) (h4:r.bad.length≤2^40) (h5:r.owners.length≤2^40) (h6:r.lics.length≤2^40):
  PX 78 [r.V,r.V] [.bool true]:=by
 refine BU 78 ?_;have q1:=(lY r.claims h1 h2).fsp;have q2:=(lX r.dates h3).fsp;have q3:=(jG r.bad h4).fsp;have q4:=(lW r.owners h5).fsp;have q5:=(lV r.lics h6).fsp;simp[AH]at q1 q2 q3 q4 q5;simp only[At 78,AE,AG,AL,AA 78 0,AA 78 1,AV,Rgt.V,Rgt.cs,AH];simp;refine⟨_,_,q1 _,?_⟩;simp[AB];simp only[AA 78 3];simp;refine⟨_,_,q2 _,?_⟩;simp;refine⟨_,_,q3 _,?_⟩;simp;refine⟨_,_,q4 _,?_⟩;simp;refine⟨_,_,q5 _,?_⟩;simp[AD,AX 78]
end Go.Va
