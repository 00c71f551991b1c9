/- Part 7 of the proof that ExtractOther returns true for every input and leaves its arguments alone. Condition: the variable that the row lists holds what the text of the program lays. Texts joined here: VwGc VsC VwBa VrA VwBb VwBc VwDf VwEa VwCc VwZa VwZb VwZc. -/
import Derived.Test.YtopldfpkgbkomaaGreatDoorL02
import Derived.Test.YtopldfpkgbkomaaGreatDoorL03
import Derived.Test.YtopldfpkgbkomaaGreatDoorL04
import Derived.Test.YtopldfpkgbkomaaGreatDoorL05
import Derived.Test.YtopldfpkgbkomaaGreatDoorL06
set_option linter.all false
set_option maxRecDepth 100000
namespace Go.Va
open Go.Proofs
theorem Xf {k:Int} (h:AE2 k=true):i64 k:=by simpa[AE2,i64]using h
theorem AI7:∀f args h x,Pr2 f args h=some x→∀t,OKT t h→FX f args (t.ins Tryz.prog GLx h) x.1 (t.ins Tryz.prog GLx h++x.2):=by
 intro f args h x hx t hk;unfold Pr2 at hx;split at hx
 ·rename_i hf;subst hf;split at hx
  ·simp only[AT0]at hx;subst hx;have ht:t=[]:=by
    cases t with
    |nil=>rfl
    |cons y t=>have:=hk.dead y.1 (by simp[Lp.has]);simp at this
   subst ht;exact p9
  ·cases hx
 ·split at hx
  ·rename_i hf;subst hf;split at hx
   ·rename_i r;split at hx
    ·rename_i m hr;have hr':=hk.get (P:=Tryz.prog) (GL:=GLx) hr (by simp);split at hx
     ·rename_i st ck hm;have hm':=hk.get (P:=Tryz.prog) (GL:=GLx) hm (by simp);simp only[AT0]at hx;subst hx;simpa using AJY (ks:=[]) hr' hm' rfl (by simp) (by simp)
     ·rename_i k v st ck hm;have hm':=hk.get (P:=Tryz.prog) (GL:=GLx) hm (by simp);split at hx
      ·rename_i hk2;simp only[AT0]at hx;subst hx;simpa using AJY (ks:=[k]) hr' hm' rfl (by simp) (by simpa using Xf hk2)
      ·cases hx
     ·cases hx
    ·cases hx
   ·cases hx
  ·cases hx
theorem p20:PX 20 [] [.bool true]:=Gg PQ AI7 e20
structure HM where
 E:List ((Int×Int)×Int)
 st:List Nat
 ck:Nat
def Bc:List ((Int×Int)×Int)→Int×Int→Option Int
 |[],_=>none
 |x::E,k=>if x.1=k then some x.2 else Bc E k
def OV:List ((Int×Int)×Int)→Int×Int→Int→List ((Int×Int)×Int)
 |[],k,v=>[(k,v)]
 |x::E,k,v=>if x.1=k then (k,v)::E else x::OV E k v
def HM.get (m:HM) (k:Int×Int):Option Int:=Bc m.E k
def HM.set (m:HM) (k:Int×Int) (v:Int):HM:=
 if (m.get k).isSome then ⟨OV m.E k v,m.st,m.ck⟩ else ⟨OV m.E k v,m.st++[m.ck],m.ck+1⟩
def LB (x:(Int×Int)×Int):V×V:=(.agg [.int .i64 x.1.1,.int .i64 x.1.2],.int .u64 x.2)
def HM.row (m:HM):Row:= .map (m.E.map LB) m.st m.ck
theorem OY:∀(E:List ((Int×Int)×Int)) (k:Int×Int) (v:Int) (k':Int×Int),Bc (OV E k v) k'=if k'=k then some v else Bc E k'
 |[],k,v,k'=>by simp only[OV,Bc];by_cases h:k=k'<;>simp[h,eq_comm]
 |x::E,k,v,k'=>by
  simp only[OV];by_cases h:x.1=k
  ·subst h;simp only[if_true,Bc];by_cases h2:x.1=k'<;>simp[h2,eq_comm]
   intro h3;exact absurd h3.symm h2
  ·rw[if_neg h];simp only[Bc,OY E k v k'];by_cases h2:x.1=k'
   ·subst h2;simp[h]
   ·simp[h2]
theorem HM.get_set (m:HM) (k:Int×Int) (v:Int) (k':Int×Int):(m.set k v).get k'=if k'=k then some v else m.get k':=by
 unfold HM.set;split<;>exact OY _ _ _ _
theorem Jo (a b:Int):∀E:List ((Int×Int)×Int),CQ true [0,0] (.agg [.int .i64 a,.int .i64 b]) (E.map LB)=some (E.findIdx? λx=>x.1==(a,b))
 |[]=>rfl
 |x::E=>by
  obtain⟨⟨c,d⟩,v⟩:=x;have hk:BL true [0,0] (.agg [.int .i64 c,.int .i64 d])=true:=by simp[BL,V.eqL,V.eq1,V.cells]
  simp only[AUD,LB,CQ,hk,if_true,V.cells,V.eqL,V.eq1,AVh,Jo a b E,AUy];have e:((c,d)==(a,b))=((a==c)&&(b==d)):=by
   rw[AU3];simp
   constructor<;>(rintro⟨h1,h2⟩;exact⟨h1.symm,h2.symm⟩)
  rw[e];cases (a==c)&&(b==d)<;>simp
theorem Dw (k:Int×Int):∀E:List ((Int×Int)×Int),Bc E k=(E.findIdx? λx=>x.1==k).bind λi=>(E[i]?).map (·.2)
 |[]=>rfl
 |x::E=>by
  simp only[Bc,AUy];by_cases h:x.1=k
  ·simp[h]
  ·simp[h,Dw k E];cases E.findIdx? λx=>x.1==k<;>simp
theorem GD (k:Int×Int) (v:Int):∀E:List ((Int×Int)×Int),OV E k v=match E.findIdx? λx=>x.1==k with|none=>E++[(k,v)]|some i=>E.set i (k,v)
 |[]=>rfl
 |x::E=>by
  simp only[OV,AUy];by_cases h:x.1=k
  ·simp[h]
  ·simp only[h,if_false,GD k v E];have:(x.1==k)=false:=by simp[h]
   rw[this];cases E.findIdx? λx=>x.1==k<;>simp
def ER (a b:Option Int):Option Int:=
 match a,b with
 |none,none=>none
 |a,b=>some (N2 [98,108,111,99,107] [IntKind.i64.wrap (a.getD 0),IntKind.i64.wrap (b.getD 0)])
def bH (lf:Int→Option Int):Nat→Int→Option Int
 |0,n=>lf n
 |l+1,n=>ER (bH lf l (2*n)) (bH lf l (2*n+1))
def Ns (lf:Int→Option Int) (m:HM):Prop:=∀l:Nat,l≤12→∀n:Int,m.get ((l:Int),n)=bH lf l n
def upd (lf:Int→Option Int) (k v:Int):Int→Option Int:=λx=>if x=k then some v else lf x
theorem IQ (lf:Int→Option Int) (k v:Int):∀(l:Nat) (n:Int),n≠k/2^l→bH (upd lf k v) l n=bH lf l n
 |0,n,h=>by simp[bH,upd]at h ⊢;intro h2;exact absurd h2 h
 |l+1,n,h=>by
  have e:k/2^(l+1)=k/2^l/2:=by rw[AU2,Int.ediv_ediv_of_nonneg (Int.pow_nonneg (by decide))]
  rw[e]at h;simp only[bH];rw[IQ lf k v l (2*n) (by omega),IQ lf k v l (2*n+1) (by omega)]
theorem KS {a b:Option Int} (h:a.isSome=true∨b.isSome=true):ER a b=some ((ER a b).getD 0):=by
 cases a<;>cases b<;>simp_all [ER]
def HD:Nat→Int→Int→Int→HM→HM
 |0,j,n,h,m=>m.set (j,n) h
 |f+1,j,n,h,m=>HD f (j+1) (n/2) ((ER ((m.set (j,n) h).get (j,2*(n/2))) ((m.set (j,n) h).get (j,2*(n/2)+1))).getD 0) (m.set (j,n) h)
theorem XN (lf:Int→Option Int) (k v:Int):∀(f j:Nat) (n h:Int) (m:HM),f+j=12→n=k/2^j→bH (upd lf k v) j n=some h→
  (∀l:Nat,l <j→∀x:Int,m.get ((l:Int),x)=bH (upd lf k v) l x)→(∀l:Nat,j≤l→l≤12→∀x:Int,m.get ((l:Int),x)=bH lf l x)→Ns (upd lf k v) (HD f j n h m):=by
 intro f;induction f with
 |zero=>
  intro j n h m hj hn hh hlo hhi l hl x;have hj:j=12:=by omega
  subst hj;simp only[HD,HM.get_set];by_cases hx:l=12∧x=n
  ·obtain⟨rfl,rfl⟩:=hx;simp[hh]
  ·rw[if_neg (by simp;intro h1 h2;exact hx ⟨by omega,h2⟩)];by_cases hl2:l=12
   ·subst hl2;rw[hhi 12 (AT6 _) (AT6 _),IQ lf k v 12 x (λh=>hx ⟨rfl,h.trans hn.symm⟩)]
   ·exact hlo l (by omega) x
 |succ f ih=>
  intro j n h m hj hn hh hlo hhi;have hm1:∀(l:Nat),l <j+1→∀x:Int,(m.set ((j:Int),n) h).get ((l:Int),x)=bH (upd lf k v) l x:=by
   intro l hl x;rw[HM.get_set];by_cases hx:l=j∧x=n
   ·obtain⟨rfl,rfl⟩:=hx;simp[hh]
   ·rw[if_neg (by simp;intro h1 h2;exact hx ⟨by omega,h2⟩)];by_cases hl2:l=j
    ·subst hl2;rw[hhi l (AT6 _) (by omega),IQ lf k v l x (λh=>hx ⟨rfl,h.trans hn.symm⟩)]
    ·exact hlo l (by omega) x
  have e:n/2=k/2^(j+1):=by rw[AU2,←Int.ediv_ediv_of_nonneg (Int.pow_nonneg (by decide)),hn]
  have hcast:((j:Int)+1)=((j+1:Nat):Int):=rfl;simp only[HD];rw[hm1 j (by omega),hm1 j (by omega),hcast];refine ih (j+1) (n/2) _ _ (by omega) e ?_ (by exact hm1) ?_
  ·simp only[bH];refine KS ?_;have h0:n%2=0∨n%2=1:=by omega
   rcases h0 with h0|h0
   ·exact .inl (by rw[show 2*(n/2)=n by omega,hh];rfl)
   ·exact .inr (by rw[show 2*(n/2)+1=n by omega,hh];rfl)
  ·intro l hl hl2 x;rw[HM.get_set,if_neg (by simp;intro h1;omega)];exact hhi l (by omega) hl2 x
theorem uj {lf:Int→Option Int} {m:HM} (hm:Ns lf m) (k v:Int):Ns (upd lf k v) (HD 12 0 k v m):=
 XN lf k v 12 0 k v m rfl (by simp) (by simp[bH,upd]) (λl hl=>absurd hl (Nat.not_lt_zero l)) (λl _ hl x=>hm l hl x)
theorem V1 (lf:Int→Option Int):∀(l:Nat) (n:Int),(bH lf l n).isSome=true↔∃k,n*2^l≤k∧k <(n+1)*2^l∧(lf k).isSome=true
 |0,n=>by
  simp only[bH,Int.pow_zero,Int.mul_one]
  constructor
  ·exact λh=>⟨n,by omega,by omega,h⟩
  ·rintro⟨k,h1,h2,h3⟩;have:k=n:=by omega
   subst this;exact h3
 |l+1,n=>by
  have hj:∀a b:Option Int,(ER a b).isSome=true↔a.isSome=true∨b.isSome=true:=by intro a b;cases a<;>cases b<;>simp[ER]
  simp only[bH,hj,V1 lf l];have e1:n*2^(l+1)=2*n*2^l:=by rw[AU2,AVL (2^l) 2,←AV8,AVL n 2]
  have e2:(n+1)*2^(l+1)=(2*n+1+1)*2^l:=by rw[AU2,AVL (2^l) 2,←AV8];congr 1;omega
  rw[e1,e2];have hpos:(0:Int) <2^l:=AV9 (by decide);have e3:(2*n+1)*2^l=2*n*2^l+2^l:=by rw[AWb,Int.one_mul]
  have e4:(2*n+1+1)*2^l=2*n*2^l+2^l+2^l:=by rw[AWb,e3,Int.one_mul]
  rw[e3,e4];generalize (2:Int)*n*2^l=A at*;generalize (2:Int)^l=p at*
  constructor
  ·rintro(⟨k,h1,h2,h3⟩|⟨k,h1,h2,h3⟩)<;>exact⟨k,by omega,by omega,h3⟩
  ·rintro⟨k,h1,h2,h3⟩;by_cases h4:k <A+p
   ·exact .inl ⟨k,h1,h4,h3⟩
   ·exact .inr ⟨k,by omega,h2,h3⟩
theorem AEi (n:Int):PX 131 [.int .i64 n] [.bool (decide (0≤n∧n≤4095))]:=by
 refine AK ALO rfl ?_;by_cases h1:0≤n<;>by_cases h2:n≤4095<;>simp[AIb,awp,sG,sF,sH,AY,h1,h2]
def C7 (k:Int) (v:List Int):Int:=N2 [112,97,105,114] [k,v.length,IntKind.i64.wrap (Oa [118,97,108,117,101] v)]
theorem AJs (k:Int) (v:List Int) (hv:∀x∈v,0≤x∧x <256) (hl:v.length≤2^39):PX 133 [.int .i64 k,AL .u8 v] [.int .u64 (C7 k v)]:=by
 refine AK ALM rfl ?_;have p1:=(AQF ⟨#[118,97,108,117,101]⟩ v hv (by decide) hl).fsp;have p2:=(p96 ⟨#[112,97,105,114]⟩ [k,v.length,IntKind.i64.wrap (Oa [118,97,108,117,101] v)] (by decide) (by simp)).fsp;have e1:Ah ⟨#[118,97,108,117,101]⟩=[118,97,108,117,101]:=by simp[Ah]
 have e2:Ah ⟨#[112,97,105,114]⟩=[112,97,105,114]:=by simp[Ah]
 rw[e1]at p1;rw[e2]at p2;have e3:N2 [112,97,105,114] [k,v.length,IntKind.i64.wrap (Oa [118,97,108,117,101] v)]=C7 k v:=rfl;rw[e3]at p2;simp[AL]at p1 p2;simp only[AIZ,AB,AA,ry,rx,AY];simp[AL];refine⟨_,_,p1 _,?_⟩;simp;refine⟨_,_,p2 _,?_⟩;simp[AF,rz]
def Ex (a:Option Int):V:= .agg [.int .u64 (a.getD 0),.bool a.isSome]
theorem AJp (a b:Option Int):PX 182 [Ex a,Ex b] [Ex (ER a b)]:=by
 refine AK ALC rfl ?_;have e2:Ah ⟨#[98,108,111,99,107]⟩=[98,108,111,99,107]:=by simp[Ah]
 have p2:=(p96 ⟨#[98,108,111,99,107]⟩ [IntKind.i64.wrap (a.getD 0),IntKind.i64.wrap (b.getD 0)] (by decide) (by simp)).fsp;rw[e2]at p2;simp[AL]at p2;simp only[AH3,AB,AA,AE,pE,pC,Rl,pB,AY];cases a with
 |none=>
  cases b with
  |none=>simp[Ex,AB,AA,AF,Rl,PE,AN,ER]
  |some b=>
   simp[Ex,AD,AA,AN,ER]at p2 ⊢;refine⟨_,_,p2 _,?_⟩;simp[AF,PE,AN]
 |some a=>
  simp[Ex,AD,AA,AN,ER]at p2 ⊢;refine⟨_,_,p2 _,?_⟩;simp[AF,PE,AN]
def EQ (n:Int):Int:=N2 [107,101,121] [IntKind.i64.wrap n]
def EL (k m:Int):Int:=N2 [115,105,103,110] [IntKind.i64.wrap k,0,0,0,0,0,IntKind.i64.wrap m,0]
def hdC (m s:Int):List V:=[.int .i64 0,.int .i64 0,.int .i64 0,.int .i64 0,.int .u64 0,.int .u64 m,.int .i64 0,.int .u64 s]
def hdV (m s:Int):V:= .agg (hdC m s)
theorem p40 (n:Int):PX 40 [.int .u64 n] [.int .u64 (EQ n)]:=by
 refine AK k40 rfl ?_;have e2:Ah ⟨#[107,101,121]⟩=[107,101,121]:=by simp[Ah]
 have p2:=(p96 ⟨#[107,101,121]⟩ [IntKind.i64.wrap n] (by decide) (by simp)).fsp;rw[e2]at p2;simp[AL]at p2;simp only[c40,AB,AA,AB2,AB1,AY];simp
 first|refine⟨_,_,p2 _,?_⟩|refine⟨_,p2 _,?_⟩|refine⟨_,⟨_,p2 _⟩,?_⟩|exact⟨_,p2 _⟩|exact⟨_,_,p2 _⟩|refine⟨⟨_,p2 _⟩,?_⟩
 simp[AF,AGA,EQ]
theorem p95 (k m s:Int):PX 95 [.int .u64 k,hdV m s] [.int .u64 (EL k m)]:=by
 refine AK k95 rfl ?_;have e2:Ah ⟨#[115,105,103,110]⟩=[115,105,103,110]:=by simp[Ah]
 have p2:=(p96 ⟨#[115,105,103,110]⟩ [IntKind.i64.wrap k,0,0,0,0,0,IntKind.i64.wrap m,0] (by decide) (by simp)).fsp;rw[e2]at p2;have w0:IntKind.i64.wrap 0=0:=by decide
 simp[AL]at p2;simp only[c95,AB,AA,yz,yy,AY,hdV,hdC];simp[w0];simp only[AA,yx];simp
 first|refine⟨_,_,p2 _,?_⟩|refine⟨_,p2 _,?_⟩|refine⟨_,⟨_,p2 _⟩,?_⟩|exact⟨_,p2 _⟩|exact⟨_,_,p2 _⟩|refine⟨⟨_,p2 _⟩,?_⟩
 simp[AF,AFe,EL]
theorem p39 (k m s:Int):PX 39 [.int .u64 k,hdV m s] [hdV m (EL (EQ k) m)]:=by
 refine AK k39 rfl ?_;have q1:=p40 k;have q2:=p95 (EQ k) m s;simp only[hdV,hdC]at q2 ⊢
 try simp at q1 q2
 simp only[c39,AB,AA,AW,AB5,AB4,AY];simp;refine⟨_,_,⟨rfl,rfl⟩,_,q1,?_⟩
 try simp
 refine⟨_,_,⟨rfl,rfl⟩,_,q2,?_⟩;simp[AN];simp only[AA,AB3];simp[AN,AF,AGB]
theorem Gv {P:Program} {GL:AX}:∀(n:Nat) {ops:List GI} {K:St→Prop} {s:St},(∀K2:St→Prop,(∀s,BE P GL (ops.drop n) K s→K2 s)→BE P GL (ops.take n) K2 s)→BE P GL ops K s:=by
 have app:∀(a b:List GI) (K:St→Prop),BE P GL (a++b) K=BE P GL a (BE P GL b K):=by
  intro a b K;induction a with
  |nil=>rfl
  |cons x a ih=>funext s;simp only[AUx,BE,ih]
 intro n ops K s h;have:=h (BE P GL (ops.drop n) K) λ_ h=>h;rw[←app,AUr]at this;exact this
theorem XP (n m:Int):PX 270 [.int .i64 n,.int .i64 m] [.bool (decide (0≤n)&&decide (n≤m))]:=by
 refine AK AKo rfl ?_;by_cases h1:0≤n<;>by_cases h2:n≤m<;>simp[AHB,awp,iq,ip,ir,AY,h1,h2]
theorem AQl (m s:Int):PX 176 [.list [hdV m s]] [.bool true]:=by
 refine AK ALH rfl ?_;have q1:=(XP 0 11).fsp;have q2:=(XP 0 1099511627776).fsp;have q3:=(XP 0 131072).fsp;have q4:=(XP 0 4096).fsp;have q5:=(XP 0 0).fsp;have w1:IntKind.i64.wrap 1=1:=by decide
 simp at q1 q2 q3 q4 q5;simp only[hdV,hdC];simp only[AIG,AB,AA,AG,pk,pj,ph,AY];simp;refine Bl (s1:=⟨[(3,.v (.func 270 [])),(6,.v (.list [.agg (hdC m s)])),(7,.v (.int .i64 1)),(8,.v (.int .i64 1))],[.cells ((hdC m s).map .v)]⟩) ?_ ?_
 ·simp only[Rw,AB,AA,AE,AG,Rv];simp[AD,AB];simp only[AA,pg];simp[AN]
  try simp only[AA]
  refine Gv 6 λK2 hK=>?_;simp[Ix]
  first|refine⟨_,_,q1 _,?_⟩|refine⟨_,q1 _,?_⟩|refine⟨_,⟨_,q1 _⟩,?_⟩|exact⟨_,q1 _⟩|exact⟨_,_,q1 _⟩|refine⟨⟨_,q1 _⟩,?_⟩
  try simp
  refine hK _ ?_;clear hK K2;refine Gv 7 λK2 hK=>?_;simp[Ix]
  first|refine⟨_,_,q2 _,?_⟩|refine⟨_,q2 _,?_⟩|refine⟨_,⟨_,q2 _⟩,?_⟩|exact⟨_,q2 _⟩|exact⟨_,_,q2 _⟩|refine⟨⟨_,q2 _⟩,?_⟩
  simp;refine hK _ ?_;clear hK K2;refine Gv 7 λK2 hK=>?_;simp[Ix]
  first|refine⟨_,_,q3 _,?_⟩|refine⟨_,q3 _,?_⟩|refine⟨_,⟨_,q3 _⟩,?_⟩|exact⟨_,q3 _⟩|exact⟨_,_,q3 _⟩|refine⟨⟨_,q3 _⟩,?_⟩
  simp;refine hK _ ?_;clear hK K2;refine Gv 7 λK2 hK=>?_;simp[Ix]
  first|refine⟨_,_,q4 _,?_⟩|refine⟨_,q4 _,?_⟩|refine⟨_,⟨_,q4 _⟩,?_⟩|exact⟨_,q4 _⟩|exact⟨_,_,q4 _⟩|refine⟨⟨_,q4 _⟩,?_⟩
  simp;refine hK _ ?_;simp[Ix]
  first|refine⟨_,_,q5 _,?_⟩|refine⟨_,q5 _,?_⟩|refine⟨_,⟨_,q5 _⟩,?_⟩|exact⟨_,q5 _⟩|exact⟨_,_,q5 _⟩|refine⟨⟨_,q5 _⟩,?_⟩
  simp[AD,pf,w1,hdC]
 ·refine A9 ?_;simp only[Rw,AB,AA,AE,AG,Rv];simp[AM,AA,pe,AF,pl]
theorem p86 (k m:Int):PX 86 [.int .u64 k,hdV m (EL k m)] [.int .i64 0]:=by
 refine AK k86 rfl ?_;have q1:=(AQl m (EL k m)).fsp;have q2:=p95 k m (EL k m);simp only[hdV,hdC]at q1 q2 ⊢;simp at q1 q2;simp only[c86,AB,AA,AG,AE,AW,zn,zm,zl,AY];simp
 first|refine⟨_,_,q1 _,?_⟩|refine⟨_,q1 _,?_⟩|refine⟨_,⟨_,q1 _⟩,?_⟩|exact⟨_,q1 _⟩|exact⟨_,_,q1 _⟩|refine⟨⟨_,q1 _⟩,?_⟩
 simp;refine⟨_,_,⟨rfl,rfl⟩,_,q2,?_⟩;simp[AD,AA,zk,AF,AFk]
def Ew (l n:Int):V:= .agg [.int .i64 l,.int .i64 n]
theorem AJi (h:List Row) (r q:Nat) (hm:HM) (l n:Int) (d:D) (hr:h[r]?=some (.cells [d,.mref q])) (hq:h[q]?=some hm.row) (hl:∀row∈h,Row.low h.length row=true):
  FX 233 [.ref r 0,.v (Ew l n)] h [.v (Ex (hm.get (l,n)))] h:=by
 refine Ai AKv rfl (AT6 _) hl (by simp[D.lt]) ?_;have hmf:=Jo l n hm.E;have hgi:=Dw (l,n) hm.E;have hr':=AO [.cells [.v (.int .i64 l),.v (.int .i64 n)],.cells [.v (.int .u64 0),.v (.bool false)]] hr;have hq':=AO [.cells [.v (.int .i64 l),.v (.int .i64 n)],.cells [.v (.int .u64 0),.v (.bool false)]] hq;simp only[AHM,AB,AA,AW,kh,kg,AS];simp[Ew,AN]
 try simp at hr'
 try simp at hq'
 simp[hr',hq',HM.row,hmf,BL,V.eqL,V.eq1];cases hi:hm.E.findIdx? (λx=>x.fst==(l,n))with
 |none=>
  rw[hi]at hgi;simp[HM.get,hgi,C5,AA,AF,RS,Un,AN,Ex,D.one?,D.vs?,D.v?]
 |some i=>
  rw[hi]at hgi;have hlt:=(AVj.1 hi).1;rw[AUX,AT2 hlt]at hgi;simp[HM.get,hgi,hlt,C5,AA,AF,RS,Un,LB,AN,Ex,D.one?,D.vs?,D.v?]
theorem p57 (h:List Row) (r q:Nat) (hm:HM) (d:D) (hr:h[r]?=some (.cells [d,.mref q])) (hq:h[q]?=some hm.row):
  FX 57 [.ref r 0] h [.v (.int .u64 ((hm.get (12,0)).getD 0))] h:=by
 refine AV k57 rfl ?_;have hmf:=Jo 12 0 hm.E;have hgi:=Dw (12,0) hm.E;simp only[c57,AB,AA,AW,AA5,AA4,AS];simp[hr,hq,HM.row,hmf,BL,V.eqL,V.eq1];cases hi:hm.E.findIdx? (λx=>x.fst==(12,0))with
 |none=>
  rw[hi]at hgi;simp[HM.get,hgi,C5,AF,vR]
 |some i=>
  rw[hi]at hgi;have hlt:=(AVj.1 hi).1;rw[AUX,AT2 hlt]at hgi;simp[HM.get,hgi,hlt,C5,AF,vR,LB]
theorem AJq (l n:Int) (hl:0 <l∧l≤12) (hn:0≤n∧n≤4096):PX 181 [Ew l n] [Ew (l-1) (2*n),Ew (l-1) (2*n+1)]:=by
 refine AK ALD rfl ?_;have w1:IntKind.i64.wrap (l-1)=l-1:=AJ;have w2:IntKind.i64.wrap (2*n)=2*n:=AJ;have w3:IntKind.i64.wrap (2*n+1)=2*n+1:=AJ;simp only[AH4,AB,AA,pG,AY];simp[Ew];rw[BO];refine BG _ (λs hs=>⟨s,.inl rfl,hs⟩) ?_;simp only[pF];simp[AN,w1,w2,w3,AF,pH,D.one?,D.vs?,D.v?]
theorem Xh (l:List Clm):CK 5 (l.map Clm.V)=true:=by cases l<;>rfl
theorem Dr {α:Type} {l:List α} {k:Nat} {x:α} (h:l[k]?=some x) (f:α→V):(l.map f).take (k+1)=(l.map f).take k++[f x]:=by
 rw[AUP,AUG,h];rfl
theorem ME {α:Type} (l:List α) (f:α→V):(l.map f).take l.length=l.map f:=AUc (by simp)
def mkL (r:Rgt) (ds:List Dat) (os:List Own) (ls:List Lic):Row:=
 .cells [.v (.int .i64 r.file),.v (.int .i64 r.state),.v (.int .i64 r.force),.v (.list (r.claims.map Clm.V)),.own 88 4 (ds.map Dat.V),.v (AL .i64 r.bad),.own 246 3 (os.map Own.V),.own 247 4 (ls.map Lic.V)]
theorem AJ9 (r:Rgt) (hn:r.dates.length≤2^30) (R1:Row) (os:List Own) (ls:List Lic):
  awp Tryz.prog GLx (.loop aG) (λe s=>e= .exit 0∧AH s.e 1= .ref 0 0∧AH s.e 2= .ref 1 0∧AH s.e 3= .ref 2 0∧s.h=[r.row,R1,mkL r r.dates os ls])
   ⟨[(1,.ref 0 0),(2,.ref 1 0),(3,.ref 2 0),(4,.v (.int .i64 0))],[r.row,R1,mkL r [] os ls]⟩:=by
 refine Ad r.dates.length (λk=>⟨[(1,.ref 0 0),(2,.ref 1 0),(3,.ref 2 0),(4,.v (.int .i64 k))],[r.row,R1,mkL r (r.dates.take k) os ls]⟩) (by simp) ?_;intro k hk;simp only[aG,AB,AA,AG,AE,ABC];simp[Rgt.row];by_cases hlt:k <r.dates.length
 ·obtain⟨x,hxk⟩:∃x,r.dates[k]?=some x:=⟨_,AT2 hlt⟩;have hxe:r.dates[k]=x:=(AT4.1 hxk).2;have hw:IntKind.i64.wrap ((k:Int)+1)=k+1:=AJ;have hroom:Ae (k+1) 32=true:=by simp[Ae];omega
  have ht:(r.dates.take k).length=k:=by simp;omega
  have hm:min k r.dates.length=k:=by omega
  have e:=Dr hxk Dat.V;rw[if_pos (by omega),AD];simp only[AW,ABA];simp[hxk,Dat.V,mkL,AN,hm,hroom];simp[ABB,hw,hlt,e,Dat.V,mkL,Rgt.row]
 ·have:k=r.dates.length:=by omega
  subst this;rw[if_neg (by omega),AM];simp[Rgt.row]
theorem AJ8 (r:Rgt) (hn:r.owners.length≤2^30) (R1:Row) (ds:List Dat) (ls:List Lic):
  awp Tryz.prog GLx (.loop aF) (λe s=>e= .exit 2∧AH s.e 1= .ref 0 0∧AH s.e 2= .ref 1 0∧AH s.e 3= .ref 2 0∧s.h=[r.row,R1,mkL r ds r.owners ls])
   ⟨[(1,.ref 0 0),(2,.ref 1 0),(3,.ref 2 0),(5,.v (.int .i64 0))],[r.row,R1,mkL r ds [] ls]⟩:=by
 refine Ad r.owners.length (λk=>⟨[(1,.ref 0 0),(2,.ref 1 0),(3,.ref 2 0),(5,.v (.int .i64 k))],[r.row,R1,mkL r ds (r.owners.take k) ls]⟩) (by simp) ?_;intro k hk;simp only[aF,AB,AA,AG,AE,AA8];simp[Rgt.row];by_cases hlt:k <r.owners.length
 ·obtain⟨x,hxk⟩:∃x,r.owners[k]?=some x:=⟨_,AT2 hlt⟩;have hxe:r.owners[k]=x:=(AT4.1 hxk).2;have hw:IntKind.i64.wrap ((k:Int)+1)=k+1:=AJ;have hroom:Ae (k+1) 24=true:=by simp[Ae];omega
  have ht:(r.owners.take k).length=k:=by simp;omega
  have hm:min k r.owners.length=k:=by omega
  have e:=Dr hxk Own.V;rw[if_pos (by omega),AD];simp only[AW,AA6];simp[hxk,Own.V,mkL,AN,hm,hroom];simp[AA7,hw,hlt,e,Own.V,mkL,Rgt.row]
 ·have:k=r.owners.length:=by omega
  subst this;rw[if_neg (by omega),AM];simp[Rgt.row]
theorem AJ7 (r:Rgt) (hn:r.lics.length≤2^30) (R1:Row) (ds:List Dat) (os:List Own):
  awp Tryz.prog GLx (.loop aE) (λe s=>e= .exit 4∧AH s.e 1= .ref 0 0∧AH s.e 2= .ref 1 0∧AH s.e 3= .ref 2 0∧∃J,s.h=r.row::R1::mkL r ds os r.lics::J)
   ⟨[(1,.ref 0 0),(2,.ref 1 0),(3,.ref 2 0),(6,.v (.int .i64 0))],[r.row,R1,mkL r ds os []]⟩:=by
 refine Aa r.lics.length (λk s=>s.e=[(1,.ref 0 0),(2,.ref 1 0),(3,.ref 2 0),(6,.v (.int .i64 k))]∧∃J,s.h=r.row::R1::mkL r ds os (r.lics.take k)::J) ⟨by simp,[],by simp⟩ ?_;rintro k ⟨se,sh⟩ hk ⟨he,J2,hh⟩;simp only at he hh;subst he hh;simp only[aE,AB,AA,AG,AE,aC];simp[Rgt.row];by_cases hlt:k <r.lics.length
 ·obtain⟨x,hxk⟩:∃x,r.lics[k]?=some x:=⟨_,AT2 hlt⟩;have hxe:r.lics[k]=x:=(AT4.1 hxk).2;have hw:IntKind.i64.wrap ((k:Int)+1)=k+1:=AJ;have hroom:Ae (k+1) 32=true:=by simp[Ae];omega
  have ht:(r.lics.take k).length=k:=by simp;omega
  have hm:min k r.lics.length=k:=by omega
  have e:=Dr hxk Lic.V;rw[if_pos (by omega),AD];simp only[AA,aA];simp[hxk,Lic.V,mkL,AN,hm,hroom];simp only[Z9];simp[mkL,AN,hm,hroom];simp[aB,hw,hlt,e,Lic.V,mkL,Rgt.row]
 ·have:k=r.lics.length:=by omega
  subst this;rw[if_neg (by omega),AM];simp[Rgt.row]
theorem p53 (r:Rgt) (hr:r.ok):PX 53 [r.V] [r.V]:=by
 refine AK k53 rfl ?_;simp only[c53,AB,AA,AG,ABF,ABE,AY];simp[Rgt.V,Rgt.cs,AN,ABD];have q0:=λR1=>AJ9 r hr.ld R1 [] [];have q1:=λR1=>AJ8 r hr.lo R1 r.dates [];have q2:=λR1=>AJ7 r hr.ll R1 r.dates r.owners;simp only[mkL,Rgt.row,Rgt.cs,AVe]at q0 q1 q2;refine Ag _ ?_ (q0 _);rintro e ⟨se,sh⟩ ⟨rfl,f1,f2,f3,hh⟩;simp only at f1 f2 f3 hh;subst hh;simp[AA9,f1,f2,f3];refine Ag _ ?_ (q1 _);rintro e ⟨se,sh⟩ ⟨rfl,f1,f2,f3,hh⟩;simp only at f1 f2 f3 hh;subst hh;simp[aD,f1,f2,f3];refine Ag _ ?_ (q2 _);rintro e ⟨se,sh⟩ ⟨rfl,f1,f2,f3,J,hh⟩;simp only at f1 f2 f3 hh;subst hh;simp[Z8,f1,f2,f3,AF,AML,D.vs?,D.v?,AN,AL]
theorem p14 (l:List Rgt) (hl:∀r∈l,r.ok) (hn:l.length≤2^30):PX 14 [.list (l.map Rgt.V)] [.list (l.map Rgt.V)]:=by
 refine AK k14 rfl ?_;simp only[c14,AB,AA,AG,ADe,ADd,ADc,AY];simp;refine Ad l.length (λk=>⟨[(0,.v (.list (l.map Rgt.V))),(3,.own 74 8 ((l.take k).map Rgt.V)),(4,.v (.int .i64 k))],[]⟩) (by simp) ?_;intro k hk;simp only[ADf,AB,AA,AG,AE,ADb];simp;by_cases hlt:k <l.length
 ·obtain⟨x,hxk⟩:∃x,l[k]?=some x:=⟨_,AT2 hlt⟩;have hxe:l[k]=x:=(AT4.1 hxk).2;have hw:IntKind.i64.wrap ((k:Int)+1)=k+1:=AJ;have hroom:Ae (k+1) 144=true:=by simp[Ae];omega
  have hm:min k l.length=k:=by omega
  have e:=Dr hxk Rgt.V;have p1:=(p53 x (hl x (AT3 hxk))).fsp;rw[if_pos (by omega),AD];simp only[AA,ADZ];simp[Rgt.V,Rgt.cs]at p1;simp[hxk,Rgt.V,Rgt.cs];refine⟨_,_,p1 _,?_⟩;simp[hm,hroom,ADa,hw,hlt,e,Rgt.V,Rgt.cs]
 ·have:k=l.length:=by omega
  subst this;rw[if_neg (by omega),AM];simp[ADY,AF,AOi,ME]
theorem Pg (l:List Int) (hi:∀n∈l,i64 n) (hn:l.length≤2^30) (h:List Row) (w:Nat) (xs:List Int) (hw:h[w]?=some (wr xs)) (hb:xs.length≤2^44):
  FX 129 [.v (AL .i64 l),.ref w 0] h [] (h.set w (wr (xs++l.flatMap Af))):=by
 refine AV ALQ rfl ?_;obtain⟨HH,hHH⟩:∃HH,h.set w (wr (xs++l.flatMap Af))=HH:=⟨_,rfl⟩;rw[hHH];simp only[AId,AB,AA,AG,sX,AS];simp[AL];refine Ad l.length (λk=>⟨[(1,.ref w 0),(5,.v (AL .i64 l)),(6,.v (.int .i64 l.length)),(7,.v (.int .i64 k))],h.set w (wr (xs++(l.take k).flatMap Af))⟩) ?_ ?_
 ·have:h.set w (wr xs)=h:=by
   obtain⟨g1,g2⟩:=AT4.1 hw;rw[←g2,AWc]
  simp[AL,this]
 intro k hk;simp only[sY,AB,AA,AG,AE,sW];simp[AL];by_cases h1:k <l.length
 ·have hx:l[k]?=some l[k]:=AT2 h1;have hww:IntKind.i64.wrap ((k:Int)+1)=k+1:=AJ;have hf:=Ce (l.take k);have ht:(l.take k).length=k:=by simp;omega
  rw[if_pos (by omega),AD];simp only[AA,sV,sU];simp[hx];refine⟨_,_,(p98 l[k] (hi _ (AUs h1)) (h.set w (wr (xs++(l.take k).flatMap Af))) w _ (BX hw) (by rw[AT5];omega)),?_⟩;simp[sT,hww,h1];rw[DJ h1]
 ·have:k=l.length:=by omega
  subst this;rw[if_neg (by omega),AM];simp[sZ,hHH]
set_option maxHeartbeats 1000000 in
theorem Ph (r:Rgt) (hr:r.ok):PX 128 [r.V] [.bool (Au r)]:=by
 refine AK ALR rfl ?_;obtain⟨R,hR⟩:∃R,Au r=R:=⟨_,rfl⟩;rw[hR];unfold Au at hR;have hlc:=hr.lc;have hld:=hr.ld;have hll:=hr.ll;have p1:=(JZ r.file 0 4095).fsp;have p2:=(JZ r.state 0 4).fsp;have p3:=(JZ r.force 0 4).fsp;have p4:=(AEh r.claims hr.claims (by omega)).fsp;have p5:=λ(h:List Row) (q:Nat) (hq:h[q]?=some (.cells [.v (.int .i64 r.claims.length)])) (hl:Low h)=>
  AQT r.dates (Fs r.claims.length) (.func 218 [.ref q 0]) 218 [.ref q 0] (FV.r 218 q 0 []) rfl rfl h hl (by simp[D.lt,D.lts];exact CE hq) (by omega) λx _ H h1 h2=>AQS x r.claims.length H q (h2 q _ hq) ⟨by omega,by omega⟩ h1
 have p6:=(AQR r.dates (by omega)).fsp;have p7:=λ(h:List Row) (q:Nat) (hq:h[q]?=some (.cells [.v (.int .i64 r.claims.length)])) (hl:Low h)=>
  AQP r.bad (λi=>inI i 0 (r.claims.length-1)) (.func 222 [.ref q 0]) 222 [.ref q 0] (FV.r 222 q 0 []) rfl rfl h hl (by simp[D.lt,D.lts];exact CE hq) (by have:=hr.lb;omega) λx _ H h1 h2=>AQO x r.claims.length H q (h2 q _ hq) ⟨by omega,by omega⟩
 have p8:=(AQN r.bad (by have:=hr.lb;omega)).fsp;have p9:=λ(h:List Row) (hl:Low h)=>AQL r.owners EO (.v (.func 226 [])) 226 [] (FV.v 226 []) rfl rfl h hl rfl (by have:=hr.lo;omega) λx hx H h1 h2=>(AQK x (hr.owners x hx)).fsp H;have p10:=(AQJ r.owners (by have:=hr.lo;omega)).fsp;have p11:=λ(h:List Row) (hl:Low h)=>AQH r.lics Fp (.v (.func 231 [])) 231 [] (FV.v 231 []) rfl rfl h hl rfl (by omega) λx hx H h1 h2=>(AQG x).fsp H;have Jc:∀a b c d e f g i n:V,Low [.cells [.v a,.v b,.v c,.v d,.v e,.v f,.v g,.v i],.cells [.v n]]:=by
  intro a b c d e f g i n row hrow;simp at hrow;rcases hrow with rfl|rfl<;>rfl
 simp[AL]at p1 p2 p3 p4 p5 p6 p7 p8 p9 p10 p11;simp only[AIe,AB,AA,AG,AE,sd,sc,AY];simp[Rgt.V,Rgt.cs,AN];generalize inI r.file 0 4095=A1 at*;generalize inI r.state 0 4=A2 at*;generalize inI r.force 0 4=A3 at*;generalize CR r.claims=A4 at*;generalize r.dates.all (Fs r.claims.length)=B1 at*;generalize CA Ft r.dates=B2 at*;generalize (r.bad.all λi=>inI i 0 (r.claims.length-1))=B3 at*;generalize CA (λa b=>decide (a <b)) r.bad=B4 at*;generalize r.owners.all EO=B5 at*;generalize CA (λa b=>decide (a.party <b.party)) r.owners=B6 at*;generalize r.lics.all Fp=B7 at*;simp only[sb];simp;refine⟨_,_,p1 _,?_⟩;cases A1 with
 |false=>simp at hR;simp[AB,AA,AF,HT,IP,hR]
 |true=>
 simp;refine⟨_,_,p2 _,?_⟩;cases A2 with
 |false=>simp at hR;simp[AB,AA,AF,HT,IP,hR]
 |true=>
 simp;refine⟨_,_,p3 _,?_⟩;cases A3 with
 |false=>simp at hR;simp[AB,AA,AF,HT,IP,hR]
 |true=>
 simp;refine⟨_,_,p4 _,?_⟩;by_cases h4:A4=0
 case neg=>
  have hf:R=false:=by rw[←hR];simp[h4]
  simp[h4,AB,AA,AF,HT,IP,hf]
 subst h4;by_cases h5:4096 <r.dates.length
 ·have h5':4096 <(r.dates.length:Int):=by omega
  have hf:R=false:=by rw[←hR];simp;omega
  simp[h5',AB,AA,AF,HT,IP,hf]
 have h5':¬4096 <(r.dates.length:Int):=by omega
 by_cases h6:4096 <r.lics.length
 ·have h6':4096 <(r.lics.length:Int):=by omega
  have hf:R=false:=by rw[←hR];simp;omega
  simp[h5',h6',AB,AA,AF,HT,IP,hf]
 have h6':¬4096 <(r.lics.length:Int):=by omega
 have e5:r.dates.length≤4096:=by omega
 have e6:r.lics.length≤4096:=by omega
 have hR2:(B1&&B2&&(B3&&B4)&&(B5&&B6)&&B7)=R:=by rw[←hR];simp[e5,e6]
 clear hR;simp[h5',h6',AD];generalize hrows:[Row.cells [D.v (V.int IntKind.i64 r.file),D.v (V.int IntKind.i64 r.state),D.v (V.int IntKind.i64 r.force),D.v (V.list (List.map Clm.V r.claims)),D.v (V.list (List.map Dat.V r.dates)),D.v (AL IntKind.i64 r.bad),D.v (V.list (List.map Own.V r.owners)),D.v (V.list (List.map Lic.V r.lics))],
  Row.cells [D.v (V.int IntKind.i64 ↑r.claims.length)]]=H
 have hlow:Low H:=by rw[←hrows];exact Jc _ _ _ _ _ _ _ _ _
 have h0:H[0]?=some (Row.cells [D.v (V.int IntKind.i64 r.file),D.v (V.int IntKind.i64 r.state),D.v (V.int IntKind.i64 r.force),D.v (V.list (List.map Clm.V r.claims)),D.v (V.list (List.map Dat.V r.dates)),D.v (AL IntKind.i64 r.bad),D.v (V.list (List.map Own.V r.owners)),D.v (V.list (List.map Lic.V r.lics))]):=by rw[←hrows];rfl
 have h1:H[1]?=some (Row.cells [D.v (V.int IntKind.i64 ↑r.claims.length)]):=by rw[←hrows];rfl
 have s4:∀(K:St→Prop) (e:Env),AH e 1= .ref 0 0→AH e 3= .ref 1 0→(∀e',AH e' 1= .ref 0 0→AH e' 3= .ref 1 0→AH e' 4= .v (.bool (B1&&B2))→K ⟨e',H⟩)→BE Tryz.prog GLx SR K ⟨e,H⟩:=by
  intro K e f1 f3 hK;simp only[SR];simp[D.vs?,D.v?,f1,f3,h0];refine⟨_,_,(p5 _ 1 h1 hlow),?_⟩;cases B1 with
  |false=>simp;exact hK _ f1 f3 rfl
  |true=>
   simp[h0,AL];refine⟨_,_,(p6 _),?_⟩;cases B2<;>(simp;exact hK _ f1 f3 rfl)
 have s5:∀(K:St→Prop) (e:Env),AH e 1= .ref 0 0→AH e 3= .ref 1 0→(∀e',AH e' 1= .ref 0 0→AH e' 4=AH e 4→AH e' 5= .v (.bool (B3&&B4))→K ⟨e',H⟩)→BE Tryz.prog GLx SQ K ⟨e,H⟩:=by
  intro K e f1 f3 hK;simp only[SQ];simp[D.vs?,D.v?,f1,f3,h0,AL];refine⟨_,_,(p7 _ 1 h1 hlow),?_⟩;cases B3 with
  |false=>simp;exact hK _ f1 rfl rfl
  |true=>
   simp[h0,AL];refine⟨_,_,(p8 _),?_⟩;cases B4<;>(simp;exact hK _ f1 rfl rfl)
 have s6:∀(K:St→Prop) (e:Env),AH e 1= .ref 0 0→(∀e',AH e' 1= .ref 0 0→AH e' 4=AH e 4→AH e' 5=AH e 5→AH e' 6= .v (.bool (B5&&B6))→K ⟨e',H⟩)→BE Tryz.prog GLx SP K ⟨e,H⟩:=by
  intro K e f1 hK;simp only[SP];simp[f1,h0];refine⟨_,_,(p9 _ hlow),?_⟩;cases B5 with
  |false=>simp;exact hK _ f1 rfl rfl rfl
  |true=>
   simp[h0,AL];refine⟨_,_,(p10 _),?_⟩;cases B6<;>(simp;exact hK _ f1 rfl rfl rfl)
 have s7:∀(K:St→Prop) (e:Env),AH e 1= .ref 0 0→(∀e',AH e' 4=AH e 4→AH e' 5=AH e 5→AH e' 6=AH e 6→AH e' 7= .v (.bool B7)→K ⟨e',H⟩)→BE Tryz.prog GLx SO K ⟨e,H⟩:=by
  intro K e f1 hK;simp only[SO];simp[f1,h0];refine⟨_,_,(p11 _ hlow),?_⟩;simp;exact hK _ rfl rfl rfl rfl
 refine s4 _ _ rfl rfl ?_;intro e4 g1 g3 g4;refine s5 _ _ (by simp[g1]) (by simp[g3]) ?_;intro e5 k1 k4 k5;refine s6 _ _ (by simp[k1]) ?_;intro e6' m1 m4 m5 m6;refine s7 _ _ (by simp[m1]) ?_;intro e7 n4 n5 n6 n7;simp at k4 m4 m5 n4 n5 n6;generalize (B1&&B2)=C1 at*;generalize (B3&&B4)=C2 at*;generalize (B5&&B6)=C3 at*;subst hR2;simp only[sa];simp[n4,n5,n6,n7,m4,m5,m6,k4,k5,g4];cases C1<;>cases C2<;>cases C3<;>simp[AF,IP]
def I9 (A B R:Row) (xs:List Int):List Row:=[A,wr xs,.cells [.ref 1 0],B,R]
theorem TP {x:Ivl} (hx:x.ok):∀n∈[x.ln,x.ld,x.hn,x.hd,b01 x.lo,b01 x.ho,b01 x.li,b01 x.hi],i64 n:=by
 intro n hn;simp at hn;rcases hn with rfl|rfl|rfl|rfl|rfl|rfl|rfl|rfl
 ·exact hx.1
 ·exact hx.2.1
 ·exact hx.2.2.1
 ·exact hx.2.2.2
 all_goals exact wj _
def Ivl.row (x:Ivl):Row:= .cells [.v (.int .i64 x.ln),.v (.int .i64 x.ld),.v (.int .i64 x.hn),.v (.int .i64 x.hd),.v (.bool x.lo),.v (.bool x.ho),.v (.bool x.li),.v (.bool x.hi)]
theorem ARX (A B R:Row) (ins:List Ivl) (hins:∀x∈ins,x.ok) (hl:ins.length≤2^40) (xs:List Int) (hb:xs.length+(ins.flatMap Cx).length≤2^43) (d6:D) (J:List Row):
  awp Tryz.prog GLx (.loop RT) (λe s=>e= .exit 2∧AH s.e 5= .ref 2 0∧AH s.e 6=d6∧s.h=I9 A B R (xs++ins.flatMap Cx)++(J++ins.map Ivl.row))
   ⟨[(5,.ref 2 0),(6,d6),(33,.v (.list (ins.map Ivl.V))),(34,.v (.int .i64 ins.length)),(35,.v (.int .i64 0))],I9 A B R xs++J⟩:=by
 refine Aa ins.length (λk s=>s.e=[(5,.ref 2 0),(6,d6),(33,.v (.list (ins.map Ivl.V))),(34,.v (.int .i64 ins.length)),(35,.v (.int .i64 k))]∧s.h=I9 A B R (xs++(ins.take k).flatMap Cx)++(J++(ins.map Ivl.row).take k)) ⟨rfl,by simp⟩ ?_;rintro k ⟨se,sh⟩ hk ⟨he,hh⟩;simp only at he hh;subst he hh;simp only[RT,AB,AA,AG,AE,Ut];simp;by_cases hlt:k <ins.length
 ·obtain⟨x,hx⟩:∃x,ins[k]?=some x:=⟨_,AT2 hlt⟩;have hxe:ins[k]=x:=(AT4.1 hx).2;have ox:=hins x (AT3 hx);have hw:IntKind.i64.wrap ((k:Int)+1)=k+1:=AJ;rw[if_pos (by omega),AD];simp only[AA,AW,Us,Ur];simp[hx,Ivl.V,AN,I9];refine⟨_,_,⟨rfl,rfl⟩,_,ul x.lo,_,_,⟨rfl,rfl⟩,_,ul x.ho,_,_,⟨rfl,rfl⟩,_,ul x.li,_,_,⟨rfl,rfl⟩,_,ul x.hi,?_⟩;simp;have hle:=G4 ins Cx (k+1);rw[DJ hlt,hxe,AT5]at hle;have hp:=λh hr=>AEn [x.ln,x.ld,x.hn,x.hd,b01 x.lo,b01 x.ho,b01 x.li,b01 x.hi] (TP ox) (by simp) h 1 (xs++(ins.take k).flatMap Cx) hr (by rw[AT5];omega);simp[AL]at hp;refine⟨_,_,hp _ rfl,?_⟩;have htk:ins.take (k+1)=ins.take k++[x]:=by rw[AVC hlt,hxe]
  have htr:(ins.map Ivl.row).take (k+1)=(ins.map Ivl.row).take k++[x.row]:=by rw[←AUd,htk,AUZ,AUd];rfl
  simp[Uq,hw,hlt,htk,-List.map_take];exact⟨rfl,htr.symm⟩
 ·have:k=ins.length:=by omega
  subst this;rw[if_neg (by omega),AM];simp;exact AUc (by simp)
theorem APF (A B:Row) (e0:Env) (he:AH e0 5= .ref 2 0) (g:F) (hg:g.ok1) (hk:g.kids.length≤2^40) (xs:List Int) (hb:xs.length+(Cl g).length≤2^43) (J:List Row):
  YSp Tryz.prog GLx 4 [.v g.V] (I9 A B (An Tryz.prog GLx .ready e0 [18] Ff Fe) xs++J) true (I9 A B (An Tryz.prog GLx .ready e0 [18] Ff Fe) (xs++Cl g)++(J++(.cells g.cells::g.ins.map Ivl.row))):=by
 obtain⟨op,n,ins,kids⟩:=g;obtain⟨o1,o2,o3,o4⟩:=hg;simp only[F.op,F.n,F.ins,F.kids]at*;refine Cn (e0:=e0) (ps:=[18]) (asg:=Ff) (body:=Fe) (by simp[I9]) rfl ?_;simp only[F.cells,F.op,F.n,F.ins,F.kids,F.V_eq,Cl]at*;simp only[AT5]at hb;have il:i64 (ins.length:Int):=by unfold i64;omega
 have kl:i64 (kids.length:Int):=by unfold i64;omega
 simp only[Fo,Ff,Fe,AA,AG,AB,kr,kq,km,kj,Uu];simp[I9,he,AN];refine⟨_,_,(p98 op o1 _ 1 xs rfl (by omega)),?_⟩;simp;refine⟨_,_,(p98 n o2 _ 1 (xs++Af op) rfl (by simp;omega)),?_⟩;simp;refine⟨_,_,(p98 ins.length il _ 1 (xs++(Af op++Af n)) (by simp) (by simp;omega)),?_⟩;simp;have hl:=ARX A B (An Tryz.prog GLx .busy e0 [18] Ff Fe) ins o3 o4 (xs++(Af op++(Af n++Af ins.length))) (by simp only[AT5];omega) (.ref (J.length+5) 0) (J++[.cells [.v (.int .i64 op),.v (.int .i64 n),.v (.list (ins.map Ivl.V)),.v (.list (kids.map F.V))]]);simp[I9]at hl;refine Ag _ ?_ hl;rintro e ⟨se,sh⟩ ⟨rfl,h5,h6,hh⟩;simp only at h5 h6 hh;subst hh;simp[Up,h5,h6];refine⟨_,_,(p98 kids.length kl _ 1 (xs++(Af op++(Af n++(Af ins.length++ins.flatMap Cx)))) (by simp) (by simp only[AT5];omega)),?_⟩;simp[CN];rfl
theorem API (A B:Row) (e0:Env) (he:AH e0 5= .ref 2 0):∀(ns:List F),(∀g∈ns,g.ok1∧g.kids.length≤2^40)→∀xs:List Int,xs.length+(ns.flatMap Cl).length≤2^43→
  RunY Tryz.prog GLx 4 (ns.map F.V) (I9 A B (An Tryz.prog GLx .ready e0 [18] Ff Fe) xs) true (I9 A B (An Tryz.prog GLx .ready e0 [18] Ff Fe) (xs++ns.flatMap Cl)):=by
 intro ns;induction ns with
 |nil=>intro _ xs _;exact⟨rfl,by simp⟩
 |cons g ns ih=>
  intro hk xs hb;rw[AUN,AT5]at hb;obtain⟨h1,h2⟩:=hk g (by simp);refine⟨true,I9 A B (An Tryz.prog GLx .ready e0 [18] Ff Fe) (xs++Cl g),rfl,λJ=>⟨_,APF A B e0 he g h1 h2 xs (by omega) J⟩,?_⟩;have:=ih (λx hx=>hk x (by simp[hx])) (xs++Cl g) (by rw[AT5];omega);rw[AUB]at this;exact this
theorem F.kids_le:∀f:F,∀g∈f.nodes,g.kids.length≤f.size:=by
 refine F.ind λop n ins kids ih g hg=>?_;rw[F.size_eq];rw[F.nodes_eq]at hg;rcases AT7.1 hg with rfl|hg
 ·have:=F.kids_len kids;simp only[F.kids];omega
 ·obtain⟨k,hk,hg⟩:=AUp.1 hg;have:=ih k hk g hg;have:=F.kid_size hk;omega
theorem AJj (f:F) (hok:f.ok) (hb:(CC f).length≤2^43):PX 232 [f.V] [AL .u8 (if BM f=0 then CC f else []),.int .i64 (BM f)]:=by
 refine AK ASl rfl ?_;have h1:=(p66 f hok).fsp;have h68:=p68 f;have hsz:=hok.2;have hr:=API (.cells f.cells) (.cells f.cells) (cpE [(5,.ref 2 0),(17,.func 147 [.ref 3 0])]) rfl f.nodes (λg hg=>⟨hok.1 g hg,by have:=F.kids_le f g hg;omega⟩) [] (by simpa[CC]using hb);obtain⟨J,hp⟩:=up f hok 4 3 _ _ _ hr rfl;have e0:([]:List Int)++f.nodes.flatMap Cl=CC f:=rfl;rw[e0]at hp;generalize CC f=bs at*;generalize BM f=er at*;obtain⟨op,n,ins,kids⟩:=f;simp only[F.cells,F.op,F.n,F.ins,F.kids,F.V_eq]at*;simp only[ANl,AB,AA,AG,AE,lA,k8,k0,AY];simp at h1 h68;simp;refine⟨_,_,h1 _,?_⟩;by_cases h0:er=0
 ·subst h0;simp[AD,AA,kw,ku,AN];refine⟨_,_,h68 _,?_⟩;simp;refine Ca 147 [.ref 3 0] [] _ _ .ready rfl rfl hp rfl ?_;simp[Bo,AA,Uo,I9];refine⟨_,_,(AEm _ 1 bs rfl (by omega)),?_⟩;simp[AF,lC,AL]
 ·simp[h0,AB,AA,AF,kz,lC,AL]
def isB (l:List Int):Prop:=∀x∈l,0≤x∧x <256
theorem isB.app {a b:List Int} (ha:isB a) (hb:isB b):isB (a++b):=λx hx=>(AUK.1 hx).elim (ha x) (hb x)
theorem isB.flat {α:Type} {f:α→List Int} {l:List α} (h:∀x∈l,isB (f x)):isB (l.flatMap f):=λy hy=>by
 obtain⟨x,hx,hy⟩:=AUp.1 hy;exact h x hx y hy
theorem isB.uvarF:∀(k:Nat) (n:Int),0≤n→n <128^(k+1)→isB (Go.Va.DQ k n)
 |0,n,h0,h1=>by
  have e:(128:Int)^(0+1)=128:=by decide
  intro x hx;simp[Go.Va.DQ]at hx;subst hx;omega
 |k+1,n,h0,h1=>by
  simp only[Go.Va.DQ];split
  ·intro x hx;simp at hx;omega
  ·intro x hx;rcases AT7.1 hx with rfl|hx
   ·omega
   ·exact isB.uvarF k (n/128) (by omega) (AWl (by decide) (by rw[←AU2];exact h1)) x hx
theorem isB.uvar {n:Int} (h0:0≤n) (h1:n <18446744073709551616):isB (Go.Va.HB n):=by
 have e:(128:Int)^(9+1)=1180591620717411303424:=by decide
 exact isB.uvarF 9 n h0 (by omega)
theorem isB.encI {n:Int} (h:i64 n):isB (Go.Va.Af n):=isB.uvar (HX h).1 (HX h).2
theorem isB.encInts {l:List Int} (h:∀n∈l,i64 n) (hl:l.length≤2^60):isB (Go.Va.BJ l):=(isB.uvar (by omega) (by omega)).app (isB.flat λn hn=>isB.encI (h n hn))
theorem isB.encRaw {l:List Int} (h:isB l) (hl:l.length≤2^60):isB (Go.Va.BN l):=(isB.uvar (by omega) (by omega)).app h
theorem isB.encF {f:F} (hf:f.ok):isB (Go.Va.CC f):=by
 refine isB.flat λg hg=>?_;obtain⟨h1,h2,h3,h4⟩:=hf.1 g hg;have hk:=F.kids_le f g hg;have hs:=hf.2;exact(isB.encI h1).app ((isB.encI h2).app ((isB.encI (by unfold i64;omega)).app ((isB.flat λx hx=>isB.encInts (TP (h3 x hx)) (by simp)).app (isB.encI (by unfold i64;omega)))))
theorem isB.encClms {l:List Clm} (hl:∀c∈l,c.ok) (hn:l.length≤2^40) (hb:(Go.Va.BP l).length≤2^60):isB (Go.Va.BP l):=by
 refine(isB.encI (by unfold i64;omega)).app (isB.flat λc hc=>?_);obtain⟨o1,o2,o3⟩:=hl c hc;unfold Go.Va.BP at hb;rw[AT5]at hb;have:=MP (f:=Bd) hc;simp only[Bd,AT5,Go.Va.BN]at this;exact(isB.encInts o1 (by omega)).app (isB.encRaw (isB.encF o3) (by omega))
theorem FS {e:Nat→Int}:∀(m k:Nat),Eo e k m=0→∀j,k≤j→j <k+m→e j=0
 |0,k,_,j,h1,h2=>by omega
 |m+1,k,h,j,h1,h2=>by
  simp only[Eo]at h;split at h
  ·rename_i h3;exact absurd h h3
  ·rename_i h3;by_cases hj:j=k
   ·subst hj;simpa using h3
   ·exact FS m (k+1) h j (by omega) (by omega)
theorem Ll {l:List Clm} (h:CR l=0):∀c∈l,BM c.body=0:=by
 intro c hc;unfold CR at h;split at h
 ·cases h
 ·obtain⟨k,hk,hx⟩:=List.getElem_of_mem hc;have:=FS _ _ h k (by omega) (by omega);unfold IA at this;rw[AT2 hk,hx]at this;simp only[Kf]at this;split at this
  ·cases this
  ·split at this
   ·exact this
   ·cases this
theorem AJt (l:List Clm) (hl:∀c∈l,c.ok) (hn:l.length≤2^40) (hb:(BP l).length≤2^39):PX 130 [.list (l.map Clm.V)] [AL .u8 (if CR l=0 then BP l else []),.int .i64 (CR l)]:=by
 refine AK ALP rfl ?_;have p1:=(AEh l hl hn).fsp;have hz:CR l=0→∀c∈l,BM c.body=0:=Ll;have il:i64 (l.length:Int):=by unfold i64;omega
 generalize CR l=e at*;unfold BP at hb ⊢;rw[AT5]at hb;simp only[AIc,AB,AA,AG,AE,sR,sQ,sP,AY];simp;refine⟨_,_,p1 _,?_⟩;by_cases h:e=0
 ·subst h;have hz:=hz rfl;simp[AD,AA,sN,sM,AN];refine⟨_,_,(p98 l.length il _ 0 [] rfl (by simp)),?_⟩;simp[sL];refine Aa l.length (λk s=>s.e=[(5,.ref 0 0),(21,.v (.list (l.map Clm.V))),(22,.v (.int .i64 l.length)),(23,.v (.int .i64 k))]∧∃J,s.h=wr (Af l.length++(l.take k).flatMap Bd)::J) ⟨rfl,[],by simp⟩ ?_;rintro k ⟨se,sh⟩ hk ⟨he,J,hh⟩;simp only at he hh;subst he hh;simp only[sS,AB,AA,AG,AE,sK];simp;by_cases hlt:k <l.length
  ·obtain⟨x,hx⟩:∃x,l[k]?=some x:=⟨_,AT2 hlt⟩;have hxm:=AT3 hx;have hxe:l[k]=x:=(AT4.1 hx).2;obtain⟨o1,o2,o3⟩:=hl x hxm;have hf:=hz x hxm;have hw:IntKind.i64.wrap ((k:Int)+1)=k+1:=AJ;have hle:=G4 l Bd (k+1);rw[DJ hlt,hxe,AT5]at hle;have e:(l.take (k+1)).flatMap Bd=(l.take k).flatMap Bd++Bd x:=by rw[DJ hlt,hxe]
   have ec:(Bd x).length=(BJ x.refs).length+(BN (CC x.body)).length:=by simp[Bd]
   have er:(BN (CC x.body)).length=(HB (CC x.body).length).length+(CC x.body).length:=by simp[BN]
   have p2:=(AJj x.body o3 (by omega)).fsp;have hp100:=λh hr=>AEn x.refs o1 o2 h 0 (Af l.length++(l.take k).flatMap Bd) hr (by rw[AT5];omega);have hbytes:isB (CC x.body):=isB.encF o3;have hp99:=λh hr=>p99 (CC x.body) hbytes (by omega) h 0 (Af l.length++((l.take k).flatMap Bd++BJ x.refs)) hr (by simp only[AT5];omega);rw[F.V_flds,hf]at p2;have e2:Bd x=BJ x.refs++BN (CC x.body):=rfl;generalize BN (CC x.body)=B at*;generalize BJ x.refs=A at*;generalize CC x.body=C at*;rw[if_pos (by omega),AD];simp only[AA,sJ,sI,Vq];simp[AL]at p2 hp99 hp100;simp[hx,Clm.V,AL,AN];refine⟨_,_,p2 _,?_⟩;simp[AD,AA,Vp];refine⟨_,_,(hp100 _ rfl),?_⟩;simp[Vo];refine⟨_,_,(hp99 _ rfl),?_⟩;simp[Vn,hw,hlt,e,e2]
  ·have:k=l.length:=by omega
   subst this;rw[if_neg (by omega),AM];simp[AA,Vm];refine⟨_,_,(AEm _ 0 (Af l.length++l.flatMap Bd) rfl (by rw[AT5];omega)),?_⟩;simp[AF,Vr,AL]
 ·simp[h,AB,AA,AF,sO,Vr,AL]
end Go.Va
