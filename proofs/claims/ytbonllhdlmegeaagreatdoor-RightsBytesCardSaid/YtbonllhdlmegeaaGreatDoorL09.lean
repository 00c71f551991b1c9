/- Laws, part 9. No condition. -/
import Derived.Test.YtbonllhdlmegeaaGreatDoorL07
set_option linter.all false
set_option maxRecDepth 100000
set_option maxHeartbeats 4000000
noncomputable section
namespace Go.Va
open Go.Proofs
structure Ivl where
 (ln ld hn hd:Int)
 (lo ho li hi:Bool)
def Ivl.V (x:Ivl):V:= .agg [.int .i64 x.ln,.int .i64 x.ld,.int .i64 x.hn,.int .i64 x.hd,.bool x.lo,.bool x.ho,.bool x.li,.bool x.hi]
def Ivl.ok (x:Ivl):Prop:=i64 x.ln∧i64 x.ld∧i64 x.hn∧i64 x.hd
structure End where
 (far n d:Int)
 (after:Bool)
def End.V (x:End):V:= .agg [.int .i64 x.far,.int .i64 x.n,.int .i64 x.d,.bool x.after]
def loE (x:Ivl):End:=if x.li then ⟨-1,0,0,false⟩ else ⟨0,x.ln,x.ld,x.lo⟩
def hiE (x:Ivl):End:=if x.hi then ⟨1,0,0,false⟩ else ⟨0,x.hn,x.hd,!x.ho⟩
theorem ren_leaf {K:St→Prop} {n0:Nat} {s:St} (π:List (Nat×Nat)) (hp:permOK n0 s.h.length π=true) (ho:noObj s.h=true) (hK:K ⟨s.e.map λp=>(p.1,p.2.ren π),renRows π s.h⟩):∃s2,RenS n0 s s2∧K s2:=
 ⟨_,.inr ⟨π,hp,ho,λn=>find_ren π s.e n,rfl⟩,hK⟩
set_option maxHeartbeats 2000000 in
theorem p303 (x:Ivl):PSp Tryz.prog GLx 275 [x.V] [(loE x).V,(hiE x).V]:=by
 obtain⟨ln,ld,hn,hd,lo,ho,li,hi⟩:=x;refine psp_of_awp (Zkk 275) rfl ?_;rw[Zga 275];rw[awp_seq,awp_reg];simp[Zge 275 0,entry,Ivl.V];rw[awp_seq,awp_regA];obtain⟨R0,hR0⟩:∃R0:List D,R0=[.v (.int .i64 ln),.v (.int .i64 ld),.v (.int .i64 hn),.v (.int .i64 hd),.v (.bool lo),.v (.bool ho),.v (.bool li),.v (.bool hi)]:=⟨_,rfl⟩;obtain⟨Z,hZ⟩:∃Z:List D,Z=[.v (.int .i64 0),.v (.int .i64 0),.v (.int .i64 0),.v (.bool false)]:=⟨_,rfl⟩;obtain⟨A,hA⟩:∃A:List D,A=[.v (.int .i64 0),.v (.int .i64 ln),.v (.int .i64 ld),.v (.bool lo)]:=⟨_,rfl⟩;obtain⟨B,hB⟩:∃B:List D,B=[.v (.int .i64 0),.v (.int .i64 hn),.v (.int .i64 hd),.v (.bool !ho)]:=⟨_,rfl⟩;refine atok_mono _ (K:=λs=>find s.e 1= .ref 0 0∧find s.e 2= .ref 1 0∧find s.e 3= .ref 2 0∧
  ((find s.e 4= .ref 3 0∧find s.e 5= .ref 4 0∧s.h=[.cells R0,.cells Z,.cells Z,.cells A,.cells B])∨
   (find s.e 4= .ref 4 0∧find s.e 5= .ref 3 0∧s.h=[.cells R0,.cells Z,.cells Z,.cells B,.cells A]))) ?_ ?_
 ·rintro s ⟨f1,f2,f3,h⟩;have key:∀s:St,find s.e 1= .ref 0 0→find s.e 2= .ref 1 0→find s.e 3= .ref 2 0→find s.e 4= .ref 3 0→find s.e 5= .ref 4 0→s.h=[.cells R0,.cells Z,.cells Z,.cells A,.cells B]→
    awp Tryz.prog GLx (.seq (.seq (.reg (oG 275 2) [1,2,3,4,5,18]) (.cond (.t 18 false) (.reg (oG 275 3) [1,2,3,4,5]) .skip)) (.seq (.seq (.reg (oG 275 4) [2,3,4,5,21]) (.cond (.t 21 false) (.reg (oG 275 5) [2,3,4,5]) .skip)) (.seq (.regA (oG 275 6) [2,3] [[],[],[0],[0,1,2]] (.take 0 (.pick (.alt 1 (.take 2 (.take 3 .done)) (.alt 2 (.take 1 (.take 3 .done)) .none))))) .ret))) (λe s=>(match e with| .exit _=>False|_=>True)∧resVs s (gR 275)=some [(loE ⟨ln,ld,hn,hd,lo,ho,li,hi⟩).V,(hiE ⟨ln,ld,hn,hd,lo,ho,li,hi⟩).V]) ⟨normE s.e [1,2,3,4,5],s.h⟩:=by
   rintro s f1 f2 f3 f4 f5 fh;simp only[awp_seq,awp_reg,awp_cond,Zge 275 2];simp[f1,f2,f3,f4,f5,fh,hR0];cases li<;>cases hi<;>simp[awp_skip,awp_ret,awp_regA,Zge 275 3,Zge 275 4,Zge 275 5,Zge 275 6,putL,loE,hiE,End.V,hA,hB,hZ]<;>refine⟨_,.inl rfl,?_⟩<;>simp[Zgr 275]
  rcases h with ⟨f4,f5,fh⟩|⟨f4,f5,fh⟩
  ·exact⟨s,.inl rfl,key s f1 f2 f3 f4 f5 fh⟩
  ·refine ren_leaf [(3,4),(4,3)] (by rw[fh];rfl) (by rw[fh];rfl) (key _ ?_ ?_ ?_ ?_ ?_ ?_)
   ·rw[find_ren,f1];rfl
   ·rw[find_ren,f2];rfl
   ·rw[find_ren,f3];rfl
   ·rw[find_ren,f4];rfl
   ·rw[find_ren,f5];rfl
   ·rw[fh,hR0,hZ,hA,hB];rfl
 ·simp[Zge 275 1,putL,hR0,hZ,hA,hB]
def End.b (x:End):Prop:=x.far≤1∧ -1≤x.far∧x.n≤1099511627776∧ -1099511627776≤x.n∧0≤x.d∧x.d≤1048576
def lessE (a b:End):Bool:=
 if a.far≠b.far then decide (a.far <b.far) else if a.far≠0 then false else if a.n*b.d≠b.n*a.d then decide (a.n*b.d <b.n*a.d) else !a.after&&b.after
theorem mul_b0 {a b:Int} (h1:a≤1099511627776) (h2: -1099511627776≤a) (h3:0≤b) (h4:b≤1048576):a*b≤1152921504606846976∧ -1152921504606846976≤a*b:=by
 have:=Int.mul_le_mul_of_nonneg_right h1 h3;have:=Int.mul_le_mul_of_nonneg_right h2 h3;omega
theorem p304 (a b:End) (ha:a.b) (hb:b.b):PSp Tryz.prog GLx 276 [a.V,b.V] [.bool (lessE a b)]:=by
 obtain⟨fa,na,da,aa⟩:=a;obtain⟨fb,nb,db,ab⟩:=b;unfold End.b at ha hb;simp only at ha hb;have m1:=mul_b0 (a:=na) (b:=db) (by omega) (by omega) (by omega) (by omega);have m2:=mul_b0 (a:=nb) (b:=da) (by omega) (by omega) (by omega) (by omega);have w1:IntKind.i64.wrap (na*db)=na*db:=wrap_i64 (by omega) (by omega);have w2:IntKind.i64.wrap (nb*da)=nb*da:=wrap_i64 (by omega) (by omega);refine psp_of_awp (Zkk 276) rfl ?_;unfold lessE;simp only[Zga 276,awp_seq,awp_reg,awp_cond,Zge 276 0,entry];simp only[End.V];simp[Zge 276 1];by_cases h1:fa=fb
 ·subst h1;simp[awp_skip,Zge 276 3];by_cases h2:fa=0
  ·subst h2;simp[awp_regD,Zge 276 5,w1,w2,Zge 276 6];by_cases h3:na*db=nb*da
   ·rw[h3];simp[Zge 276 8];cases aa<;>simp[awp_ret,Zgr 276]
   ·simp[h3,awp_ret,Zge 276 7,Zgr 276]
  ·simp[h2,awp_ret,Zge 276 4,Zgr 276]
 ·simp[h1,awp_ret,Zge 276 2,Zgr 276]
def smallR (n d:Int):Bool:=okR n d&&decide (n≤1073741824∧ -1073741824≤n∧d≤32768)
theorem p309 (n d:Int) (h1:i64 n) (h2:i64 d):PSp Tryz.prog GLx 358 [ratV n d] [.bool (smallR n d)]:=by
 refine psp_of_awp (Zkk 358) rfl ?_;have hp:=(p248 n d h1 h2).fsp;unfold smallR;simp only[Zga 358,awp_seq,awp_reg,Zge 358 0,entry];simp[ratV]at hp ⊢;simp[Zge 358 1];refine⟨_,_,hp _,?_⟩;cases okR n d with
 |false=>simp[awp_ret,Zgr 358]
 |true=>
  by_cases b1: -1073741824≤n<;>by_cases b2:n≤1073741824<;>simp[b1,b2,awp_ret,Zgr 358]
theorem p308 (n d:Int) (h1:i64 n) (h2:i64 d) (op inf:Bool):PSp Tryz.prog GLx 357 [ratV n d,.bool op,.bool inf] [.bool (if inf then decide (n=0∧d=0)&& !op else smallR n d)]:=by
 refine psp_of_awp (Zkk 357) rfl ?_;have hp:=(p309 n d h1 h2).fsp;simp only[Zga 357,awp_seq,awp_reg,awp_cond,Zge 357 0,entry];simp[ratV]at hp ⊢;cases inf with
 |false=>
  simp[Zge 357 1,awp_skip,Zge 357 3];refine⟨_,_,hp _,?_⟩;simp[awp_ret,Zgr 357]
 |true=>
  simp[Zge 357 1,Zge 357 2];by_cases b1:n=0<;>by_cases b2:d=0<;>simp[b1,b2,V.eqL,V.eq1,awp_ret,Zgr 357]
theorem p305 (l:List V):PSp Tryz.prog GLx 277 [.list l] [.int .i64 (if l.length>32 then 4 else 0)]:=by
 refine psp_of_awp (Zkk 277) rfl ?_;simp only[Zga 277,awp_seq,awp_reg,awp_cond,Zge 277 0,entry];simp[Zge 277 1];by_cases h:32 <(l.length:Int)
 ·have h':32 <l.length:=by omega
  simp[h,h',awp_ret,Zge 277 2,Zgr 277]
 ·have h':¬32 <l.length:=by omega
  simp[h,h',awp_skip,awp_ret,Zge 277 3,Zgr 277]
def limE (n d:Int) (op inf:Bool):Bool:=if inf then decide (n=0∧d=0)&& !op else smallR n d
def goodE (x:Ivl):Bool:=limE x.ln x.ld x.lo x.li&&limE x.hn x.hd x.ho x.hi&&lessE (loE x) (hiE x)
theorem smallR_b {n d:Int} (h:smallR n d=true):1≤d∧d≤32768∧n≤1073741824∧ -1073741824≤n:=by
 unfold smallR at h;simp at h;have:=okR_b h.1;omega
theorem loE_b {x:Ivl} (h:limE x.ln x.ld x.lo x.li=true):(loE x).b:=by
 unfold limE at h;unfold loE End.b;split at h
 ·rename_i hi;simp[hi]
 ·rename_i hi;have:=smallR_b h;simp[hi];omega
theorem hiE_b {x:Ivl} (h:limE x.hn x.hd x.ho x.hi=true):(hiE x).b:=by
 unfold limE at h;unfold hiE End.b;split at h
 ·rename_i hi;simp[hi]
 ·rename_i hi;have:=smallR_b h;simp[hi];omega
theorem p258 (x:Ivl) (hx:x.ok):PSp Tryz.prog GLx 273 [x.V] [.bool (goodE x)]:=by
 refine psp_of_awp (Zkk 273) rfl ?_;have p1:=(p308 x.ln x.ld hx.1 hx.2.1 x.lo x.li).fsp;have p2:=(p308 x.hn x.hd hx.2.2.1 hx.2.2.2 x.ho x.hi).fsp;have p3:=(p303 x).fsp;have p4:=λh1 h2=>(p304 (loE x) (hiE x) (loE_b h1) (hiE_b h2)).fsp;unfold goodE;have e1:∀n d op inf,(if inf then decide (n=0∧d=0)&& !op else smallR n d)=limE n d op inf:=λ_ _ _ _=>rfl;rw[e1]at p1 p2;generalize hl1:limE x.ln x.ld x.lo x.li=l1 at*;generalize hl2:limE x.hn x.hd x.ho x.hi=l2 at*;simp only[Zga 273,awp_seq,awp_reg,awp_cond,Zge 273 0,Zge 273 1,entry];simp[ratV,Ivl.V]at p1 p2 p3 ⊢;simp[Zge 273 2];refine⟨_,_,p1 _,?_⟩;simp;cases l1 with
 |false=>simp[awp_ret,Zge 273 3,Zgr 273]
 |true=>
  simp;refine⟨_,_,p2 _,?_⟩;simp;cases l2 with
  |false=>simp[awp_ret,Zge 273 3,Zgr 273]
  |true=>
   simp[awp_skip,Zge 273 4];refine⟨_,_,p3 _,?_⟩;have q:=p4 rfl rfl;simp[End.V]at q ⊢;refine⟨_,_,q _,?_⟩;simp[awp_ret,Zgr 273]
theorem get_appk (h l:List Row) (n k:Nat) (hn:n=h.length+k):(h++l)[n]?=l[k]?:=by
 subst hn;rw[List.getElem?_append_right (by omega)];congr 1;omega
@[simp high] theorem get_app_0_0 (h l:List Row):(h++l)[h.length]?=l[0]?:=get_appk h l _ 0 (by omega)
@[simp high] theorem get_app_1_0 (h l:List Row):(h++l)[h.length+1]?=l[1]?:=get_appk h l _ 1 (by omega)
@[simp high] theorem get_app_2_0 (h l:List Row):(h++l)[h.length+1+1]?=l[2]?:=get_appk h l _ 2 (by omega)
@[simp high] theorem get_app_2_1 (h l:List Row):(h++l)[h.length+2]?=l[2]?:=get_appk h l _ 2 (by omega)
@[simp high] theorem get_app_3_0 (h l:List Row):(h++l)[h.length+1+1+1]?=l[3]?:=get_appk h l _ 3 (by omega)
@[simp high] theorem get_app_3_1 (h l:List Row):(h++l)[h.length+3]?=l[3]?:=get_appk h l _ 3 (by omega)
@[simp high] theorem get_app_4_0 (h l:List Row):(h++l)[h.length+1+1+1+1]?=l[4]?:=get_appk h l _ 4 (by omega)
@[simp high] theorem get_app_4_1 (h l:List Row):(h++l)[h.length+4]?=l[4]?:=get_appk h l _ 4 (by omega)
@[simp high] theorem get_app_5_0 (h l:List Row):(h++l)[h.length+1+1+1+1+1]?=l[5]?:=get_appk h l _ 5 (by omega)
@[simp high] theorem get_app_5_1 (h l:List Row):(h++l)[h.length+5]?=l[5]?:=get_appk h l _ 5 (by omega)
@[simp high] theorem get_app_6_0 (h l:List Row):(h++l)[h.length+1+1+1+1+1+1]?=l[6]?:=get_appk h l _ 6 (by omega)
@[simp high] theorem get_app_6_1 (h l:List Row):(h++l)[h.length+6]?=l[6]?:=get_appk h l _ 6 (by omega)
@[simp high] theorem get_app_7_0 (h l:List Row):(h++l)[h.length+1+1+1+1+1+1+1]?=l[7]?:=get_appk h l _ 7 (by omega)
@[simp high] theorem get_app_7_1 (h l:List Row):(h++l)[h.length+7]?=l[7]?:=get_appk h l _ 7 (by omega)
@[simp high] theorem get_app_8_0 (h l:List Row):(h++l)[h.length+1+1+1+1+1+1+1+1]?=l[8]?:=get_appk h l _ 8 (by omega)
@[simp high] theorem get_app_8_1 (h l:List Row):(h++l)[h.length+8]?=l[8]?:=get_appk h l _ 8 (by omega)
section
variable {P:Program} {GL:Globals}
theorem awp_loop_I {c:AC} {Q:AExit→St→Prop} (n:Nat) (I:Nat→St→Prop) {s:St} (h0:I 0 s)
  (h:∀k s,k≤n→I k s→awp P GL c (λe s'=>match e with| .normal=>k <n∧I (k+1) s'|e=>Q e s') s):awp P GL (.loop c) Q s:=by
 refine⟨λm s=>∃k,k≤n∧m=n-k∧I k s,⟨n,0,Nat.zero_le _,rfl,h0⟩,?_⟩;rintro m s ⟨k,hk,rfl,hi⟩;refine awp_mono c ?_ (h k s hk hi);intro e s' h;cases e with
 |normal=>obtain⟨hlt,hi'⟩:=h;exact⟨n-(k+1),by omega,k+1,hlt,rfl,hi'⟩
 |exit i=>exact h
 |ret=>exact h
end
def badAt (l:List Ivl) (k:Nat):Bool:=
 match l[k]? with
 |none=>true
 |some x=> !goodE x||(match k with|0=>false|j+1=>match l[j]? with|none=>true|some y=> !lessE (hiE y) (loE x))
def spanE (l:List Ivl):Int:=if (List.range l.length).any (badAt l) then 1 else if l.length>32 then 4 else 0
theorem any_bad {n k:Nat} {f:Nat→Bool} (hk:k <n) (h:f k=true):(List.range n).any f=true:=by
 rw[List.any_eq_true];exact⟨k,by simpa using hk,h⟩
theorem any_good {n:Nat} {f:Nat→Bool} (h:∀k <n,f k=false):(List.range n).any f=false:=by
 rw[List.any_eq_false];intro k hk;simpa using h k (by simpa using hk)
theorem goodE_b {x:Ivl} (h:goodE x=true):(loE x).b∧(hiE x).b:=by
 unfold goodE at h;simp at h;exact⟨loE_b h.1.1,hiE_b h.1.2⟩
theorem p246 (l:List Ivl) (hl:∀x∈l,x.ok) (hn:l.length≤2^40):PSp Tryz.prog GLx 218 [.list (l.map Ivl.V)] [.int .i64 (spanE l)]:=by
 refine psp_of_awp (Zkk 218) rfl ?_;simp only[Zga 218,awp_seq,awp_reg,awp_block,Zge 218 0,Zge 218 1,entry];simp;refine awp_loop_I l.length (λk s=>s.e=[(0,.v (.list (l.map Ivl.V))),(9,.v (.list (l.map Ivl.V))),(10,.v (.int .i64 l.length)),(11,.v (.int .i64 k))]∧∀j <k,badAt l j=false) ⟨rfl,by omega⟩ ?_;rintro k ⟨se,sh⟩ hk ⟨he,hg⟩;simp only at he;subst he;simp only[Zgl 218 0,awp_seq,awp_reg,awp_block,awp_cond,Zge 218 2];simp;by_cases h1:k <l.length
 ·obtain⟨x,hx⟩:∃x,l[k]?=some x:=⟨_,List.getElem?_eq_getElem h1⟩;have hxm:=List.mem_of_getElem? hx;have hw:IntKind.i64.wrap ((k:Int)+1)=k+1:=wrap_i64 (by omega) (by omega);have p1:=(p258 x (hl x hxm)).fsp;rw[if_pos (by omega),awp_skip];simp only[Zge 218 3];simp[Ivl.V]at p1;simp[hx,Ivl.V,putL,Zge 218 4];refine⟨_,_,p1 _,?_⟩;simp;cases hgx:goodE x with
  |false=>
   have hb:badAt l k=true:=by unfold badAt;rw[hx];simp[hgx]
   simp[awp_ret,Zge 218 5,Zgr 218];unfold spanE;rw[any_bad h1 hb];rfl
  |true=>
   simp[awp_skip,Zge 218 6];cases k with
   |zero=>
    have hb:badAt l 0=false:=by unfold badAt;rw[hx];simp[hgx]
    simp[Zge 218 11];simp at hw;simp[hw,h1];exact hb
   |succ j=>
    obtain⟨y,hy⟩:∃y,l[j]?=some y:=⟨_,List.getElem?_eq_getElem (by omega)⟩;have hgy:goodE y=true:=by
     have:=hg j (by omega);unfold badAt at this;rw[hy]at this;simp at this;exact this.1
    have p2:=(p303 x).fsp;have p3:=(p303 y).fsp;have p4:=(p304 (hiE y) (loE x) (goodE_b hgy).2 (goodE_b hgx).1).fsp;have hw2:IntKind.i64.wrap (j:Int)=j:=wrap_i64 (by omega) (by omega);simp[Ivl.V,End.V]at p2 p3 p4;simp[Zge 218 7];refine⟨_,_,p2 _,?_⟩;simp[putL,Zge 218 8,hw2,hy,Ivl.V];refine⟨_,_,p3 _,?_⟩;simp[Zge 218 9];refine⟨_,_,p4 _,?_⟩;simp;cases hle:lessE (hiE y) (loE x)with
    |false=>
     have hb:badAt l (j+1)=true:=by unfold badAt;rw[hx];simp[hgx,hy,hle]
     simp[awp_ret,Zge 218 10,Zgr 218];unfold spanE;rw[any_bad h1 hb];rfl
    |true=>
     have hb:badAt l (j+1)=false:=by unfold badAt;rw[hx];simp[hgx,hy,hle]
     simp at hw;simp[Zge 218 11,hw,h1];intro i hi;rcases Nat.lt_or_ge i (j+1)with h|h
     ·exact hg i h
     ·have:i=j+1:=by omega
      subst this;exact hb
 ·have hk2:k=l.length:=by omega
  subst hk2;rw[if_neg (by omega),awp_exit];have p5:=(p305 (l.map Ivl.V)).fsp;simp at p5;simp[Zge 218 12];refine⟨_,_,p5 _,?_⟩;simp[awp_ret,Zgr 218];unfold spanE;rw[any_good hg];simp
theorem p351 (n d:Int) (h1:i64 n) (h2:i64 d):PSp Tryz.prog GLx 413 [ratV n d] [.bool (smallR n d)]:=by
 refine psp_of_awp (Zkk 413) rfl ?_;have hp:=(p127 n d h1 h2).fsp;unfold smallR;simp only[Zga 413,awp_seq,awp_reg,Zge 413 0,entry];simp[ratV]at hp ⊢;simp[Zge 413 1];refine⟨_,_,hp _,?_⟩;cases okR n d with
 |false=>simp[awp_ret,Zgr 413]
 |true=>
  by_cases b1: -1073741824≤n<;>by_cases b2:n≤1073741824<;>simp[b1,b2,awp_ret,Zgr 413]
theorem eqL2 (a b c d:Int):V.eqL [0,0] [.int .i64 a,.int .i64 b] [.int .i64 c,.int .i64 d]=some (decide (a=c∧b=d)):=by
 by_cases h1:a=c<;>by_cases h2:b=d<;>simp[V.eqL,V.eq1,h1,h2]
def Ivl.cells (x:Ivl):List D:=[.v (.int .i64 x.ln),.v (.int .i64 x.ld),.v (.int .i64 x.hn),.v (.int .i64 x.hd),.v (.bool x.lo),.v (.bool x.ho),.v (.bool x.li),.v (.bool x.hi)]
set_option maxHeartbeats 2000000 in
theorem l332a (x:Ivl) (Q:AExit→St→Prop)
  (hQ:Q .normal ⟨[(1,.ref 0 0),(30,.v (.bool ((x.li&&(!decide (x.ln=0∧x.ld=0)||x.lo))||(x.hi&&(!decide (x.hn=0∧x.hd=0)||x.ho)))))],[.cells x.cells]⟩):
  awp Tryz.prog GLx (.reg (oG 361 1) [1,30]) Q ⟨[(1,.ref 0 0)],[.cells x.cells]⟩:=by
 obtain⟨ln,ld,hn,hd,lo,ho,li,hi⟩:=x;rw[awp_reg];simp only[Ivl.cells]at*;simp only[Zge 361 1];have e1:=eqL2 ln ld 0 0;have e2:=eqL2 hn hd 0 0;generalize decide (ln=0∧ld=0)=A at*;generalize decide (hn=0∧hd=0)=B at*;cases li with
 |false=>
  cases hi with
  |false=>simpa using hQ
  |true=>cases B<;>cases ho<;>simp[e2]<;>simpa using hQ
 |true=>
  cases hi with
  |false=>cases A<;>cases lo<;>simp[e1]<;>simpa using hQ
  |true=>cases A<;>cases B<;>cases lo<;>cases ho<;>simp[e1,e2]<;>simpa using hQ
set_option maxHeartbeats 2000000 in
theorem l332b (x:Ivl) (sl sh:Bool) (Q:AExit→St→Prop)
  (hQ:Q .normal ⟨[(1,.ref 0 0),(52,.v (.bool ((!x.li&& !sl)||(!x.hi&& !sh))))],[.cells x.cells]⟩):
  awp Tryz.prog GLx (.reg (oG 361 5) [1,52]) Q ⟨[(1,.ref 0 0),(3,.v (.bool sl)),(4,.v (.bool sh))],[.cells x.cells]⟩:=by
 obtain⟨ln,ld,hn,hd,lo,ho,li,hi⟩:=x;rw[awp_reg];simp only[Ivl.cells]at*;simp only[Zge 361 5];cases li<;>cases hi<;>cases sl<;>cases sh<;>simp<;>simpa using hQ
def goodR (x:Ivl):Bool:=
 if (x.li&&(!decide (x.ln=0∧x.ld=0)||x.lo))||(x.hi&&(!decide (x.hn=0∧x.hd=0)||x.ho)) then false
 else if (!x.li&& !smallR x.ln x.ld)||(!x.hi&& !smallR x.hn x.hd) then false
 else if x.li||x.hi then true
 else if x.ln=x.hn∧x.ld=x.hd then !x.lo&& !x.ho
 else lessR x.ln x.ld x.hn x.hd
set_option maxHeartbeats 2000000 in
theorem p332 (x:Ivl) (hx:x.ok):PSp Tryz.prog GLx 361 [x.V] [.bool (goodR x)]:=by
 refine psp_of_awp (Zkk 361) rfl ?_;have p1:=(p351 x.ln x.ld hx.1 hx.2.1).fsp;have p2:=(p351 x.hn x.hd hx.2.2.1 hx.2.2.2).fsp;obtain⟨R,hR⟩:∃R,goodR x=R:=⟨_,rfl⟩;rw[hR];unfold goodR at hR;rw[Zga 361];rw[awp_seq,awp_reg];simp[Zge 361 0,entry,Ivl.V];rw[awp_seq,awp_seq];refine l332a x _ ?_;generalize ((x.li&&(!decide (x.ln=0∧x.ld=0)||x.lo))||(x.hi&&(!decide (x.hn=0∧x.hd=0)||x.ho)))=g1 at*
 simp[awp_cond];cases g1 with
 |true=>simp at hR;simp[awp_seq,awp_reg,awp_ret,Zge 361 2,Zgr 361,hR]
 |false=>
  simp only[awp_skip,if_neg Bool.false_ne_true]at hR ⊢;rw[awp_seq,awp_reg];simp[ratV]at p1 p2;simp[Zge 361 3,Ivl.cells];refine⟨_,_,p1 _,?_⟩;simp;rw[awp_seq,awp_reg];simp[Zge 361 4];refine⟨_,_,p2 _,?_⟩;simp;rw[awp_seq,awp_seq];refine l332b x (smallR x.ln x.ld) (smallR x.hn x.hd) _ ?_;have hs1:((!x.li&& !smallR x.ln x.ld)||(!x.hi&& !smallR x.hn x.hd))=false→x.li=false→x.hi=false→okR x.ln x.ld=true∧okR x.hn x.hd=true:=by
   intro h h1 h2;rw[h1,h2]at h;simp[smallR]at h;exact⟨h.1.1,h.2.1⟩
  generalize ((!x.li&& !smallR x.ln x.ld)||(!x.hi&& !smallR x.hn x.hd))=g2 at*
  simp[awp_cond];cases g2 with
  |true=>simp at hR;simp[awp_seq,awp_reg,awp_ret,Zge 361 6,Zgr 361,hR]
  |false=>
   simp only[awp_skip,if_neg Bool.false_ne_true]at hR ⊢;obtain⟨ln,ld,hn,hd,lo,ho,li,hi⟩:=x;simp only[Ivl.cells]at*;rw[awp_seq,awp_seq,awp_reg];cases li with
   |true=>simp at hR;simp[Zge 361 7,awp_cond,awp_seq,awp_reg,awp_ret,Zge 361 8,Zgr 361,hR]
   |false=>
    cases hi with
    |true=>simp at hR;simp[Zge 361 7,awp_cond,awp_seq,awp_reg,awp_ret,Zge 361 8,Zgr 361,hR]
    |false=>
     obtain⟨o1,o2⟩:=hs1 trivial rfl rfl;have p3:=(p352 ln ld hn hd o1 o2).fsp;simp[ratV]at p3;simp[Zge 361 7,awp_cond,awp_skip];rw[awp_seq,awp_seq,awp_reg];simp[Zge 361 9,eqL2];by_cases h3:ln=hn∧ld=hd
     ·simp[h3]at hR;cases lo<;>cases ho<;>simp at hR<;>simp[h3,awp_cond,awp_seq,awp_reg,awp_ret,Zge 361 10,Zgr 361,hR]
     ·simp[h3]at hR;simp[h3,awp_cond,awp_skip,awp_seq,awp_reg,Zge 361 11];refine⟨_,_,p3 _,?_⟩;simp[awp_ret,Zgr 361,hR]
end Go.Va
