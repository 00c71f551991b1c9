/- Laws, part 8. No condition. -/
import Derived.Test.YtopldfpkgbkomaaGreatDoorL03
import Derived.Test.YtopldfpkgbkomaaGreatDoorL07
set_option linter.all false
set_option maxRecDepth 100000
set_option maxHeartbeats 4000000
noncomputable section
namespace Go.Va
open Go.Proofs
def Iq(xs:List Int)(n:Int)(J:i64 n)(O:xs.length<=2^45):cR Tryz.prog BK 135 [.W 5 1 (xs.map (.int .u8)),(n:D)] [.W 5 1 ((xs++Aj n).map (.int .u8))]:=by
 refine MK (D6 135) rfl λh=>?_;have N:=Al n;have G:AV (xs.length+(Aj n).length) 1=true:=by simp[AV];omega
 simp only[As 135,AH,AJ,AB 135 0,AB 135 1,AZ];simp;refine⟨_,_,(Ob n J h),?_⟩;simp[G,AA,AW 135]
def eQ(n:Int)(J:i64 n):cR Tryz.prog BK 135 [.nil 5 1,(n:D)] [.W 5 1 ((Aj n).map (.int .u8))]:=by
 refine MK (D6 135) rfl λh=>?_;have N:=Al n;have G:AV (Aj n).length 1=true:=by simp[AV];omega
 simp only[As 135,AH,AJ,AB 135 0,AB 135 1,AZ];simp;refine⟨_,_,(Ob n J h),?_⟩;simp[G,AA,AW 135]
def L8{α:Type}{ok:α->Bool}{f:α->α->Bool}{l:List α}(P:Nat->Bool)(U:∀(k:Nat)x,l[k]?=some x->(∀j <k,P j=true)->P k=(ok x&&(match k with|0=>true|j+1=>match l[j]? with|some y=>f y x|none=>true))):
  (l.all ok&&Cp f l)=decide (∀k <l.length,P k=true):=by
 rw[tC,rX,Fl,ry,decide_eq_true_eq]
 constructor
 .rintro⟨W,h2⟩;have key:∀n,∀k <n,k <l.length->P k=true:=by
   intro n;induction n with
   |zero=>intro k G;omega
   |succ n ih=>
    intro k G J;have hx:l[k]?=some l[k]:=rW J;rw[U k _ hx λj Z=>ih j AE AE,W _ (sy J),sV];cases k with
    |zero=>rfl
    |succ j=>
     have N:l[j]?=some l[j]:=rW AE;simp only[N];exact h2 j _ _ N hx
  exact λk G=>key (k+1) k AE G
 .intro h;have O:∀(k:Nat)x,l[k]?=some x->(ok x&&(match k with|0=>true|j+1=>match l[j]? with|some y=>f y x|none=>true))=true:=by intro k x hx;have G:=(rZ.1 hx).1;rw[<-U k x hx λj Z=>h j AE];exact h k G
  refine⟨λx hx=>?_,λi x y hx N=>?_⟩
  .obtain⟨k,G⟩:=uQ hx;have:=O k x G;simp only[rX]at this;exact this.1
  .have:=O (i+1) y N;simp only[rX,hx]at this;exact this.2
def Rgt.row(r:Rgt):Row:= .cells [.v (.int .i64 r.file),.v (.int .i64 r.state),.v (.int .i64 r.force),.v (.list (r.claims.map Clm.V)),.v (.list (r.dates.map Dat.V)),.v (AM .i64 r.bad),.v (.list (r.owners.map Own.V)),.v (.list (r.lics.map Lic.V))]
def Hz{α:Type}(f:α->α->Bool)(l:List α)(k:Nat)(x:α):Bool:=match k with|0=>true|j+1=>match l[j]? with|some y=>f y x|none=>true
def Zf(x:Lic)(q:Nat)(H:List Row)(O:H[q]?=some (.cells [x.fr,x.to,x.fst,x.lst]))(G:D)(K:St->Prop)(J:∀N,AK N 1= .R 0 0->AK N 10=G->AK N 228= .v (.bool (!HW x))->K ⟨N,H⟩):
  Bd Tryz.prog BK (oG 49 27) K ⟨[(1,.R 0 0),(10,G),(11,.R q 0)],H⟩:=by
 have U:=(LY x.fr 1 4095).fsp;have W:=(LY x.to 1 4095).fsp;have Z:=(LY x.fst 0 x.lst).fsp;unfold HW at J;generalize ED x.fr 1 4095=A at*;generalize ED x.to 1 4095=B at*;generalize ED x.fst 0 x.lst=C at*;simp at U W Z;simp only[AB 49 27];simp[O];refine⟨_,_,U _,?_⟩;cases A with
 |false=>simp;exact J _ rfl rfl rfl
 |true=>
 simp[O];refine⟨_,_,W _,?_⟩;cases B with
 |false=>simp;exact J _ rfl rfl rfl
 |true=>
 simp[O];refine⟨_,_,Z _,?_⟩;cases C with
 |false=>simp;exact J _ rfl rfl rfl
 |true=>
 simp[O];refine J _ rfl rfl ?_;simp;by_cases h:x.lst<=131072<;>simp[h]<;>omega
def cd(x:Dat)(n:Nat)(last:Int)(q:Nat)(H:List Row)(N:H[q]?=some (.cells [x.cl,x.ix,x.day,x.file]))(hn:n<=2^30)(d1 W:D)(K:St->Prop)(J:∀G,AK G 1=d1->AK G 3=(n:D)->AK G 5=W->AK G 6= .R q 0->AK G 98= .v (.bool (!(HZ n x&&decide (last <64*x.cl+x.ix))))->K ⟨G,H⟩):
  Bd Tryz.prog BK (oG 49 9) K ⟨[(1,d1),(3,(n:D)),(4,(last:D)),(5,W),(6,.R q 0)],H⟩:=by
 have Z:=(LY x.cl 0 (n-1)).fsp;have p2:=(LY x.ix 0 63).fsp;have p3:=(LY x.day 0 131072).fsp;have p4:=(LY x.file 0 4095).fsp;have w0:IntKind.i64.wrap ((n:Int)-1)=n-1:=AS AE AE;have O:ED x.cl 0 (n-1)=true->0<=x.cl/\x.cl<=n-1:=by simp[ED]
 have U:ED x.ix 0 63=true->0<=x.ix/\x.ix<=63:=by simp[ED]
 unfold HZ at J;generalize ED x.cl 0 (n-1)=A at*;generalize ED x.ix 0 63=B at*;generalize ED x.day 0 131072=C at*;generalize ED x.file 0 4095=E at*;simp at Z p2 p3 p4;simp only[AB 49 9];simp[N,w0];refine⟨_,_,Z _,?_⟩;cases A with
 |false=>simp;exact J _ rfl rfl rfl rfl rfl
 |true=>
 simp[N];refine⟨_,_,p2 _,?_⟩;cases B with
 |false=>simp;exact J _ rfl rfl rfl rfl rfl
 |true=>
 have O:=O rfl;have U:=U rfl;have w1:IntKind.i64.wrap (64*x.cl)=64*x.cl:=AS AE AE;have w2:IntKind.i64.wrap (64*x.cl+x.ix)=64*x.cl+x.ix:=AS AE AE;simp[N];refine⟨_,_,p3 _,?_⟩;cases C with
 |false=>simp;exact J _ rfl rfl rfl rfl rfl
 |true=>
 simp[N];refine⟨_,_,p4 _,?_⟩;cases E with
 |false=>simp;exact J _ rfl rfl rfl rfl rfl
 |true=>
 simp[N,w1,w2];refine J _ rfl rfl rfl rfl ?_;simp;by_cases h:last <64*x.cl+x.ix<;>simp[h]<;>omega
def Zh(r:Rgt)(n k:Nat)(x:Int)(H:List Row)(O:H[0]?=some r.row)(hx:r.bad[k]?=some x)(hn:n<=2^30)(hk:k<=2^30)(G:D)(K:St->Prop)(N:∀J,AK J 1= .R 0 0->AK J 3=(n:D)->AK J 7=(k:D)->AK J 140= .v (.bool (!(ED x 0 (n-1)&&Hz (λa b=>decide (a <b)) r.bad k x)))->K ⟨J,H⟩):
  KB Tryz.prog BK (oG 49 15) K ⟨[(1,.R 0 0),(3,(n:D)),(7,(k:D)),(111,G)],H⟩:=by
 have p1:=LY x 0 (n-1);have w0:IntKind.i64.wrap ((n:Int)-1)=n-1:=AS AE AE;generalize ED x 0 (n-1)=A at*;simp only[AB 49 15];simp[O,Rgt.row,w0,AM,hx];refine⟨_,_,⟨rfl,rfl⟩,_,p1,?_⟩;cases A with
 |false=>simp;exact N _ rfl rfl rfl rfl
 |true=>
 cases k with
 |zero=>simp;exact N _ rfl rfl rfl rfl
 |succ j=>
  have hj:j <r.bad.length:=by have:=(rZ.1 hx).1;omega
  obtain⟨y,U⟩:∃y,r.bad[j]?=some y:=⟨_,rW hj⟩;have w1:IntKind.i64.wrap (((j+1:Nat):Int)-1)=j:=by rw[AS AE AE];omega
  have W:(0:Int) <((j+1:Nat):Int):=AE;have w5:IntKind.i64.wrap (j:Int)=j:=AS AE AE;have Z:(0:Int)<=((j+1:Nat):Int):=AE;have w4:((j+1:Nat):Int).toNat=j+1:=AE;simp only[tN,uz]at w1 W Z w4;simp[O,Rgt.row,AM,hx,W,w5,Z,w4,U];refine N _ rfl rfl Ac ?_;simp[Hz,U];by_cases h:y <x<;>simp[h]<;>omega
def Zg(r:Rgt)(k:Nat)(x:Own)(O:x.ok)(q:Nat)(H:List Row)(h0:H[0]?=some r.row)(hx:r.owners[k]?=some x)(hk:k<=2^30)(W:H[q]?=some (.cells [x.party,x.num,x.den]))(K:St->Prop)(N:∀U,AK U 1= .R 0 0->AK U 8=(k:D)->AK U 193= .v (.bool (!(Fn x&&Hz (λa b=>decide (a.party <b.party)) r.owners k x)))->K ⟨U,H⟩):
  KB Tryz.prog BK (oG 49 21) K ⟨[(1,.R 0 0),(8,(k:D)),(9,.R q 0)],H⟩:=by
 have p1:=LY x.party 1 4095;have p2:=Zy x.num x.den O.2.1 O.2.2;unfold Fn at N;generalize ED x.party 1 4095=A at*;generalize Ef x.num x.den=B at*;simp[BE]at p2;simp only[AB 49 21];simp[W];refine⟨_,_,⟨rfl,rfl⟩,_,p1,?_⟩;cases A with
 |false=>simp;exact N _ rfl rfl rfl
 |true=>
 simp[W];refine⟨_,_,⟨rfl,rfl⟩,_,p2,?_⟩;cases B with
 |false=>simp;exact N _ rfl rfl rfl
 |true=>
 simp[W];by_cases Z:x.num<=0
 .have G:¬0 <x.num:=AE;simp[Z];exact N _ rfl rfl (by simp[G])
 have G:0 <x.num:=AE;simp[Z];by_cases h2:x.den <x.num
 .have J:¬x.num<=x.den:=AE;simp[h2];exact N _ rfl rfl (by simp[J])
 have J:x.num<=x.den:=AE;simp[h2];cases k with
 |zero=>simp;exact N _ rfl rfl (by simp[G,J,Hz])
 |succ j=>
  have hj:j <r.owners.length:=by have:=(rZ.1 hx).1;omega
  obtain⟨y,hy⟩:∃y,r.owners[j]?=some y:=⟨_,rW hj⟩;have w1:IntKind.i64.wrap (((j+1:Nat):Int)-1)=j:=by rw[AS AE AE];omega
  have w2:(0:Int) <((j+1:Nat):Int):=AE;have w5:IntKind.i64.wrap (j:Int)=j:=AS AE AE;simp only[tN,uz]at w1 w2;simp[h0,Rgt.row,w5,hy,Own.V];refine N _ rfl Ac ?_;simp[Hz,hy,G,J];by_cases h:y.party <x.party<;>simp[h]<;>omega
section
def Jn(ds:List Dat):Nat->Int
 |0=> -1
 |j+1=>match ds[j]? with|some y=>64*y.cl+y.ix|none=> -1
def pD(n:Nat)(ds:List Dat)(k:Nat):Bool:=match ds[k]? with|some x=>HZ n x&&decide (Jn ds k <64*x.cl+x.ix)|none=>true
def pL{α:Type}(ok:α->Bool)(f:α->α->Bool)(l:List α)(k:Nat):Bool:=match l[k]? with|some x=>ok x&&Hz f l k x|none=>true
def Xa(n lo hi:Int):ED n lo hi=true↔lo<=n/\n<=hi:=by simp[ED]
variable {n:Nat}
def PK{x:Dat}(h:HZ n x=true):0<=x.cl/\x.cl<=n-1/\0<=x.ix/\x.ix<=63:=by simp only[HZ,rX,Xa]at h;omega
def Tv(n:Nat)(ds:List Dat):(ds.all (HZ n)&&Cp Ha ds)=decide (∀k <ds.length,pD n ds k=true):=by
 refine L8 (pD n ds) λk x hx G=>?_;simp only[pD,hx];cases hok:HZ n x with
 |false=>simp
 |true=>
  have b:=PK hok;simp only[sV];cases k with
  |zero=>
   have: -1 <64*x.cl+x.ix:=AE;simp[Jn,this]
  |succ j=>
   cases hy:ds[j]? with
   |none=>
    have: -1 <64*x.cl+x.ix:=AE;simp[Jn,hy,this]
   |some y=>
    have J:=G j AE;simp only[pD,hy,rX]at J;have N:=PK J.1;simp only[Jn,hy,Ha];rw[tC];simp;omega
def QP{α:Type}(ok:α->Bool)(f:α->α->Bool)(l:List α):(l.all ok&&Cp f l)=decide (∀k <l.length,pL ok f l k=true):=by refine L8 (pL ok f l) λk x hx _=>?_;simp only[pL,hx];rfl
def YC{α:Type}(ok:α->Bool)(l:List α):l.all ok=decide (∀k <l.length,∀x,l[k]?=some x->ok x=true):=by
 rw[tC,ry,decide_eq_true_eq]
 constructor
 .exact λh k _ x hx=>h x (rY hx)
 .intro h x hx;obtain⟨k,G⟩:=uQ hx;exact h k (rZ.1 G).1 x G
def fW(r:Rgt)(n:Nat)(hn:n<=2^30)(hl:r.dates.length<=2^30)(J0:List Row)(Q:AExit->St->Prop)(a1:(∀k <r.dates.length,pD n r.dates k=true)->∀e J,AK e 1= .R 0 0->AK e 3=(n:D)->Q (.exit 0) ⟨e,r.row::J⟩)(U:¬(∀k <r.dates.length,pD n r.dates k=true)->∀s,AK s.e 2=(false:D)->Q .ret s):
  AX (.loop (lG 49 0)) Q ⟨[(1,.R 0 0),(3,(n:D)),(4,((-1:Int):D)),(5,((0:Int):D))],r.row::J0⟩:=by
 refine Ag r.dates.length (λk s=>s.e=[(1,.R 0 0),(3,(n:D)),(4,((Jn r.dates k:Int):D)),(5,(k:D))]/\(∃J,s.h=r.row::J)/\∀j <k,pD n r.dates j=true) ⟨rfl,⟨J0,rfl⟩,Ac⟩ ?_;rintro k ⟨se,sh⟩ hk ⟨he,⟨J,hh⟩,hI⟩;simp only at he hh;subst he hh;simp only[Zw,BG 49 0,AB 49 6];simp[Rgt.row];by_cases G:k <r.dates.length
 .obtain⟨x,hx⟩:∃x,r.dates[k]?=some x:=⟨_,rW G⟩;have hw:=Bt k;have N:pD n r.dates k=(HZ n x&&decide (Jn r.dates k <64*x.cl+x.ix)):=by simp only[pD,hx]
  have a2:Jn r.dates (k+1)=64*x.cl+x.ix:=by simp only[Jn,hx]
  rw[CF,AD];simp only[AB 49 8];simp[hx,Dat.V,AQ];refine cd x n (Jn r.dates k) (J.length+1) _ Ac hn _ _ _ ?_;intro e' f1 f3 f5 f6 O;rw[<-N]at O;simp[O];cases hp:pD n r.dates k with
  |false=>
   have W:¬ ∀k <r.dates.length,pD n r.dates k=true:=λh=>by rw[h k G]at hp;cases hp
   simp[AA,AB 49 10];exact U W _ rfl
  |true=>
   rw[hp]at N;have Z:HZ n x=true:=by have:=N.symm;simp only[rX]at this;exact this.1
   have b:=PK Z;have w1:IntKind.i64.wrap (64*x.cl)=64*x.cl:=AS AE AE;have w2:IntKind.i64.wrap (64*x.cl+x.ix)=64*x.cl+x.ix:=AS AE AE;simp[AD,AB 49 11,f1,f3,f5,f6,w1,w2,AB 49 7,hw,G,a2];intro j hj;rcases sL j k with h|h
   .exact hI j h
   .have:j=k:=AE;subst this;exact hp
 .have:k=r.dates.length:=AE;subst this;rw[Bj,AN];simp;exact a1 hI _ J rfl rfl
def fV(r:Rgt)(n:Nat)(hn:n<=2^30)(hl:r.bad.length<=2^30)(J:List Row)(Q:AExit->St->Prop)(W:(∀k <r.bad.length,pL (λi=>ED i 0 (n-1)) (λa b=>decide (a <b)) r.bad k=true)->∀e,AK e 1= .R 0 0->Q (.exit 2) ⟨e,r.row::J⟩)(O:¬(∀k <r.bad.length,pL (λi=>ED i 0 (n-1)) (λa b=>decide (a <b)) r.bad k=true)->∀s,AK s.e 2=(false:D)->Q .ret s):
  AX (.loop (lG 49 1)) Q ⟨[(1,.R 0 0),(3,(n:D)),(7,((0:Int):D))],r.row::J⟩:=by
 refine Aw r.bad.length (λk=>⟨[(1,.R 0 0),(3,(n:D)),(7,(k:D))],r.row::J⟩) (λk=>∀j <k,pL (λi=>ED i 0 (n-1)) (λa b=>decide (a <b)) r.bad j=true) rfl Ac ?_;intro k hk hI;simp only[Zw,BG 49 1,AB 49 13];simp[Rgt.row,AM];by_cases N:k <r.bad.length
 .obtain⟨x,hx⟩:∃x,r.bad[k]?=some x:=⟨_,rW N⟩;have hw:=Bt k;have Z:pL (λi=>ED i 0 (n-1)) (λa b=>decide (a <b)) r.bad k=(ED x 0 (n-1)&&Hz (λa b=>decide (a <b)) r.bad k x):=by simp only[pL,hx]
  rw[CF,AD];simp only[Aa]
  try simp
  refine Zh r n k x (r.row::J) rfl hx hn AE _ _ ?_;intro e' f1 f3 f7 G;rw[<-Z]at G;simp[G];cases hp:pL (λi=>ED i 0 (n-1)) (λa b=>decide (a <b)) r.bad k with
  |false=>
   have U:¬ ∀k <r.bad.length,pL (λi=>ED i 0 (n-1)) (λa b=>decide (a <b)) r.bad k=true:=λh=>by rw[h k N]at hp;cases hp
   simp[AA,AB 49 16];exact O U _ rfl
  |true=>
   simp[AD,f1,f3,f7,AB 49 14,hw,N,Rgt.row,AM];intro j hj;rcases sL j k with h|h
   .exact hI j h
   .have:j=k:=AE;subst this;exact hp
 .have:k=r.bad.length:=AE;subst this;rw[Bj,AN];simp;exact W hI _ rfl
def fU(r:Rgt)(ho:∀o∈r.owners,o.ok)(hl:r.owners.length<=2^30)(J0:List Row)(Q:AExit->St->Prop)(W:(∀k <r.owners.length,pL Fn (λa b=>decide (a.party <b.party)) r.owners k=true)->∀e J,AK e 1= .R 0 0->Q (.exit 4) ⟨e,r.row::J⟩)(O:¬(∀k <r.owners.length,pL Fn (λa b=>decide (a.party <b.party)) r.owners k=true)->∀s,AK s.e 2=(false:D)->Q .ret s):
  AX (.loop (lG 49 2)) Q ⟨[(1,.R 0 0),(8,((0:Int):D))],r.row::J0⟩:=by
 refine Ag r.owners.length (λk s=>s.e=[(1,.R 0 0),(8,(k:D))]/\(∃J,s.h=r.row::J)/\∀j <k,pL Fn (λa b=>decide (a.party <b.party)) r.owners j=true) ⟨rfl,⟨J0,rfl⟩,Ac⟩ ?_;rintro k ⟨se,sh⟩ hk ⟨he,⟨J,hh⟩,hI⟩;simp only at he hh;subst he hh;simp only[Zw,BG 49 2,AB 49 18];simp[Rgt.row];by_cases N:k <r.owners.length
 .obtain⟨x,hx⟩:∃x,r.owners[k]?=some x:=⟨_,rW N⟩;have hw:=Bt k;have Z:pL Fn (λa b=>decide (a.party <b.party)) r.owners k=(Fn x&&Hz (λa b=>decide (a.party <b.party)) r.owners k x):=by simp only[pL,hx]
  rw[CF,AD];simp only[AB 49 20];simp[hx,Own.V,AQ,Aa];refine Zg r k x (ho x (rY hx)) (J.length+1) _ (by rfl) hx AE Ac _ ?_;intro e' f1 f8 G;rw[<-Z]at G;simp[G];cases hp:pL Fn (λa b=>decide (a.party <b.party)) r.owners k with
  |false=>
   have U:¬ ∀k <r.owners.length,pL Fn (λa b=>decide (a.party <b.party)) r.owners k=true:=λh=>by rw[h k N]at hp;cases hp
   simp[AA,AB 49 22];exact O U _ rfl
  |true=>
   simp[AD,f1,f8,AB 49 19,hw,N];intro j hj;rcases sL j k with h|h
   .exact hI j h
   .have:j=k:=AE;subst this;exact hp
 .have:k=r.owners.length:=AE;subst this;rw[Bj,AN];simp;exact W hI _ J rfl
def fS(r:Rgt)(hl:r.lics.length<=2^30)(J0:List Row)(Q:AExit->St->Prop)(W:r.lics.all HW=true->∀s,Q (.exit 6) s)(N:r.lics.all HW=false->∀s,AK s.e 2=(false:D)->Q .ret s):
  AX (.loop (lG 49 3)) Q ⟨[(1,.R 0 0),(10,((0:Int):D))],r.row::J0⟩:=by
 refine Ag r.lics.length (λk s=>s.e=[(1,.R 0 0),(10,(k:D))]/\(∃J,s.h=r.row::J)/\∀j <k,∀x,r.lics[j]?=some x->HW x=true) ⟨rfl,⟨J0,rfl⟩,Ac⟩ ?_;rintro k ⟨se,sh⟩ hk ⟨he,⟨J,hh⟩,hI⟩;simp only at he hh;subst he hh;simp only[Zw,BG 49 3,AB 49 24];simp[Rgt.row];by_cases O:k <r.lics.length
 .obtain⟨x,hx⟩:∃x,r.lics[k]?=some x:=⟨_,rW O⟩;have hw:=Bt k;rw[CF,AD];simp only[AB 49 26];simp[hx,Lic.V,AQ];refine Zf x (J.length+1) _ Ac _ _ ?_;intro e' f1 f10 G;simp[G];cases hp:HW x with
  |false=>
   have U:r.lics.all HW=false:=by rw[List.all_eq_false];exact⟨x,rY hx,by rw[hp];decide⟩
   simp[AA,AB 49 28];exact N U _ rfl
  |true=>
   simp[AD,f1,f10,AB 49 25,hw,O];intro j hj y Z;rcases sL j k with h|h
   .exact hI j h y Z
   .have:j=k:=AE;subst this;rw[hx]at Z;cases Z;exact hp
 .have:k=r.lics.length:=AE;subst this;rw[Bj,AN];simp;refine W ?_ _;rw[YC,decide_eq_true_eq];exact hI
end
def bT:AC:=(.seq (.reg (oG 49 4) [1,3,4]) (.seq (.seq (.reg (oG 49 5) [1,3,4,5]) (.block 0 (.loop (lG 49 0)))) (.seq (.seq (.reg (oG 49 12) [1,3,7]) (.block 2 (.loop (lG 49 1)))) (.seq (.seq (.reg (oG 49 17) [1,8]) (.block 4 (.loop (lG 49 2)))) (.seq (.seq (.reg (oG 49 23) [1,10]) (.block 6 (.loop (lG 49 3)))) (.seq (.reg (oG 49 29) [2]) .ret))))))
def bU:(gA 49)=(.seq (.reg (oG 49 0) [1]) (.seq (.reg (oG 49 1) [1,3]) (.seq (.seq (.reg (oG 49 2) [1,3,48]) (.cond (.t 48 false) (.seq (.reg (oG 49 3) [2]) .ret) .skip)) bT))):=(As 49 :)
def pk(r:Rgt)(U:r.ok):PX 49 [r.V] [.bool (Ao r)]:=by
 refine BS 49 ?_;obtain⟨R,G⟩:∃R,Ao r=R:=⟨_,rfl⟩;rw[G];unfold Ao at G;have a1:=U.lc;have p1:=(LY r.file 0 4095).fsp;have p2:=(LY r.state 0 4).fsp;have p3:=(LY r.force 0 4).fsp;have p4:=(Zz r.claims U.claims AE).fsp;have hD:=Tv r.claims.length r.dates;have hB:=QP (λi=>ED i 0 (r.claims.length-1)) (λa b=>decide (a <b)) r.bad;have hO:=QP Fn (λa b=>decide (a.party <b.party)) r.owners;rw[hD,hB,hO]at G;simp at p1 p2 p3 p4;rw[bU];simp only[AH,AJ,AO,AB 49 0,AB 49 1,Ad];simp[Rgt.V,Rgt.cs];generalize ED r.file 0 4095=A1 at*;generalize ED r.state 0 4=A2 at*;generalize ED r.force 0 4=A3 at*;generalize CB r.claims=A4 at*;simp only[AB 49 2];simp;refine⟨_,_,p1 _,?_⟩;cases A1 with
 |false=>simp at G;simp[AA,AB 49 3,AW 49,G]
 |true=>
 simp;refine⟨_,_,p2 _,?_⟩;cases A2 with
 |false=>simp at G;simp[AA,AB 49 3,AW 49,G]
 |true=>
 simp;refine⟨_,_,p3 _,?_⟩;cases A3 with
 |false=>simp at G;simp[AA,AB 49 3,AW 49,G]
 |true=>
 simp;refine⟨_,_,p4 _,?_⟩;by_cases h4:A4=0
 case neg=>
  have hf:R=false:=by rw[<-G];simp[h4]
  simp[h4,AA,AB 49 3,AW 49,hf]
 subst h4;by_cases h5:4096 <r.dates.length
 .have N:4096 <(r.dates.length:Int):=AE;have hf:R=false:=by rw[<-G];simp[show ¬r.dates.length<=4096 by omega]
  simp[N,AA,AB 49 3,AW 49,hf]
 have N:¬4096 <(r.dates.length:Int):=AE;by_cases h6:4096 <r.lics.length
 .have O:4096 <(r.lics.length:Int):=AE;have hf:R=false:=by rw[<-G];simp[show ¬r.lics.length<=4096 by omega]
  simp[N,O,AA,AB 49 3,AW 49,hf]
 have O:¬4096 <(r.lics.length:Int):=AE;have e5:decide (r.dates.length<=4096)=true:=by simpa using h5
 have e6:decide (r.lics.length<=4096)=true:=by simpa using h6
 rw[e5,e6]at G;simp only[beq_self_eq_true,uP,sV]at G;simp[N,O,AD];have fin:∀e,AK e 1= .R 0 0->AK e 3=(r.claims.length:D)->AX bT (λe s=>(match e with| .exit _=>False|_=>True)/\Cf s (gR 49)=some [.bool R]) ⟨e,[r.row]⟩:=by
  intro e f1 f3;unfold bT;simp only[AH,AJ,AY,AB 49 4,AB 49 5];simp[f1,f3];refine fW r r.claims.length a1 U.ld [] _ ?_ ?_
  .intro hd e J Z g3;rw[decide_eq_true hd,sV]at G;simp[AB 49 12,Z,g3];refine fV r r.claims.length a1 U.lb J _ ?_ ?_
   .intro hb e Z;rw[decide_eq_true hb,sV]at G;simp[AB 49 17,Z];refine fU r U.owners U.lo J _ ?_ ?_
    .intro ho e J2 Z;rw[decide_eq_true ho,sV]at G;simp[AB 49 23,Z];refine fS r U.ll J2 _ ?_ ?_
     .intro hl s;rw[hl]at G;simp[AB 49 29,AA,AW 49,<-G]
     .intro hl s W;rw[hl]at G;simp[AW 49,W,<-G]
    .intro ho s W;rw[decide_eq_false ho,uM]at G;simp[AW 49,W,<-G]
   .intro hb s W;rw[decide_eq_false hb]at G;simp at G;simp[AW 49,W,<-G]
  .intro hd s W;rw[decide_eq_false hd]at G;simp at G;simp[AW 49,W,<-G]
 exact fin _ rfl rfl
def GZ:V:= .list [.list [],.list [.int .i64 0],.list [.int .i64 0],.list [.int .i64 1,.int .i64 2],.list [],.list [.int .i64 4]]
def jC:PX 16 [] [GZ]:=by refine BS 16 ?_;simp[As 16,AH,AJ,AA,AB 16 0,AB 16 1,AW 16,Ad,GZ]
def IH(n:Int):Int:=([0,7,8,4095,2047][n.toNat]?).getD 0
def DJ(l:List Int)(i:Nat):Rgt:=
 let r:=Ed (l.drop (min l.length (1+4*i)))
 {r with file:=IH ((i+Aq l 0 5).tmod 5),force:=if i%2=0 then 0 else r.force}
def Ae(l:List Int):List Rgt:=((List.range (Aq l 0 5).toNat).map (DJ l)).filter Ao
def K6(l:List Int)(i:Nat):(DJ l i).tiny 3:=by
 have h:=Q8 (l.drop (min l.length (1+4*i)));refine⟨?_,h.state,?_,h.claims,h.dates,h.bad,h.owners,h.lics,h.lc,h.ld,h.lb,h.lo,h.ll⟩
 .simp only[DJ,IH];generalize ((i+Aq l 0 5).tmod 5).toNat=k
  match k with
  |0|1|2|3|4=>simp[i64]
  |k+5=>simp[i64]
 .simp only[DJ];split
  .simp[i64]
  .exact h.force
def bd:AC:=(.seq (.reg (oG 10 6) [0,3,4,5,6]) (.seq (.reg (oG 10 7) [0,3,4,5,6]) (.seq (.seq (.reg (oG 10 8) [0,3,4,5,6,34]) (.cond (.t 34 false) (.reg (oG 10 9) [0,3,4,5,6]) .skip)) (.seq (.reg (oG 10 10) [0,3,4,5,6,7]) (.seq (.reg (oG 10 11) [0,3,4,5,6,38]) (.cond (.t 38 false) (.reg (oG 10 12) [0,3,4,5]) .skip))))))
def WG:(lG 10 0)=(.seq (.seq (.reg (oG 10 4) [0,3,4,5,12]) (.cond (.t 12 false) .skip (.exit 0))) (.seq (.block 1 bd) (.reg (oG 10 5) [0,3,4,5]))):=(BG 10 0 :)
def oc(l:List Int)(n:Int)(k:Nat)(A:List Rgt)(J:List Row)(hk:k <n.toNat)(a7:n <5)(hA:A.length<=k)(S Q:Rgt)(hr:Q={S with file:=IH ((k+n).tmod 5),force:=if k%2=0 then 0 else S.force})(p2:PX 48 [AM .i64 (l.drop (min l.length (1+4*k)))] [S.V])(O:PX 49 [Q.V] [.bool (Ao Q)])(K:AExit->St->Prop)(N:∀e J',AK e 0= .v (AM .i64 l)->AK e 3= .W 32 8 ((A++(if Ao Q then [Q] else [])).map Rgt.V)->AK e 4=(n:D)->AK e 5=(k:D)->K .normal ⟨e,J'⟩):
  ∀e,AK e 0= .v (AM .i64 l)->AK e 3= .W 32 8 (A.map Rgt.V)->AK e 4=(n:D)->AK e 5=(k:D)->AX bd K ⟨e,J⟩:=by
 intro e f0 f3 f4 f5;have v2:IntKind.i64.wrap (4*(k:Int))=4*k:=AS AE AE;have v3:IntKind.i64.wrap (1+4*(k:Int))=1+4*k:=AS AE AE;have v4:IntKind.i64.wrap ((k:Int)+n)=k+n:=AS AE AE;have G:AV (A.length+1) 144=true:=by simp[AV];omega
 have a1:(if 1+4*(k:Int) <(l.length:Int) then 1+4*(k:Int) else (l.length:Int))=(min l.length (1+4*k):Nat):=by split<;>omega
 have p2:=p2.fsp;have O:=O.fsp;have Z:min l.length (1+4*k)<=l.length:=Nat.min_le_left _ _;generalize min l.length (1+4*k)=m at*;simp[AM,Rgt.V,Rgt.cs]at p2 O f0;unfold bd;simp only[AH,AJ,AO,AB 10 6];have a6:(l.map (V.int .i64)).take l.length=l.map (V.int .i64):=sN Ac;simp[v2,v3,a1,Z,a6,f0,f5];refine⟨_,_,p2 _,?_⟩;have t0:0<=((k:Int)+n).tmod 5:=vK _ AE;have t1:([V.int .i64 0,V.int .i64 7,V.int .i64 8,V.int .i64 4095,V.int .i64 2047])[(((k:Int)+n).tmod 5).toNat]?=some ((IH (((k:Int)+n).tmod 5):Int):V):=by
  have t2:=UR ((k:Int)+n) 5 Ah;unfold IH;obtain⟨q,hq⟩:∃q,(((k:Int)+n).tmod 5).toNat=q:=⟨_,rfl⟩;rw[hq];have:q <5:=AE
  match q,this with
  |0,_|1,_|2,_|3,_|4,_=>rfl
 generalize IH (((k:Int)+n).tmod 5)=fl at*;simp[AQ,AB 10 7,v4,t0,t1,f0,f3,f4,f5];have a2:∀f:Int,Q.claims=S.claims/\Q.dates=S.dates/\Q.bad=S.bad/\Q.owners=S.owners/\Q.lics=S.lics/\Q.file=fl/\Q.state=S.state/\Q.force=if k%2=0 then 0 else S.force:=by subst hr;simp
 obtain⟨e1,e2,e3,e4,e5,e6,e7,e8⟩:=a2 0;rw[e1,e2,e3,e4,e5,e6,e7,e8]at O;have W:(k:Int).tmod 2=0↔k%2=0:=by rw[vH AE];omega
 by_cases h2:k%2=0
 .rw[if_pos h2]at O e8;have U:=W.2 h2;simp[AB 10 8,U,AB 10 9,AQ,AB 10 10,D.vs?,D.v?];refine⟨_,_,(O _),?_⟩;cases hf:Ao Q with
  |false=>
   rw[hf]at N;simp[AB 10 11,AD];exact N _ _ (by simp[AM]) Ac Ac Ac
  |true=>
   rw[hf]at N;simp[AB 10 11,AB 10 12,G,D.vs?,D.v?];exact N _ _ (by simp[AM]) (by simp[Rgt.V,Rgt.cs,e1,e2,e3,e4,e5,e6,e7,e8,AM]) Ac Ac
 .rw[if_neg h2]at O e8;have U:¬(k:Int).tmod 2=0:=λh=>h2 (W.1 h);simp[AB 10 8,U,AD,AB 10 10,D.vs?,D.v?];refine⟨_,_,(O _),?_⟩;cases hf:Ao Q with
  |false=>
   rw[hf]at N;simp[AB 10 11];exact N _ _ (by simp[AM]) Ac Ac Ac
  |true=>
   rw[hf]at N;simp[AB 10 11,AB 10 12,G,D.vs?,D.v?];exact N _ _ (by simp[AM]) (by simp[Rgt.V,Rgt.cs,e1,e2,e3,e4,e5,e6,e7,e8,AM]) Ac Ac
def jD(l:List Int):PX 10 [AM .i64 l] [.list ((Ae l).map Rgt.V)]:=by
 refine BS 10 ?_;have Z:=(SR l 0 5 Ah).fsp;have hn:=Ez l 0 5 Ah;have U:∀i:Nat,DJ l i={Ed (l.drop (min l.length (1+4*i)))with file:=IH ((i+Aq l 0 5).tmod 5),force:=if i%2=0 then 0 else (Ed (l.drop (min l.length (1+4*i)))).force}:=λ_=>rfl;have J:Ae l=((List.range (Aq l 0 5).toNat).map (DJ l)).filter Ao:=rfl;generalize Ae l=R at*;generalize Aq l 0 5=n at*;simp[AM]at Z;simp only[As 10,AH,AJ,AY,AB 10 0,AB 10 1,Ad];simp[AB 10 2,AM];refine⟨_,_,Z _,?_⟩;simp[AB 10 3];refine Ag n.toNat (λk s=>s.e=[(0,.v (AM .i64 l)),(3,.W 32 8 ((((List.range k).map (DJ l)).filter Ao).map Rgt.V)),(4,(n:D)),(5,(k:D))]) (by simp[AM]) ?_;rintro k ⟨se,sh⟩ hk he;simp only at he;subst he;simp only[Zw,WG,AB 10 4];simp;by_cases O:k <n.toNat
 .have v1:=Bt k;have v2:IntKind.i64.wrap (4*(k:Int))=4*k:=AS AE AE;have v3:IntKind.i64.wrap (1+4*(k:Int))=1+4*k:=AS AE AE;have v4:IntKind.i64.wrap ((k:Int)+n)=k+n:=AS AE AE;have hr:=U k;have N:(((List.range k).map (DJ l)).filter Ao).length<=k:=by have:=sZ Ao ((List.range k).map (DJ l));simpa using this
  have G:((List.range (k+1)).map (DJ l)).filter Ao=((List.range k).map (DJ l)).filter Ao++(if Ao (DJ l k) then [DJ l k] else []):=by rw[tF,r9,tW];simp[uR]
  rw[G];have p2:=qj (l.drop (min l.length (1+4*k)));have p3:=pk (DJ l k) ((K6 l k).ok Ah);generalize ((List.range k).map (DJ l)).filter Ao=A at*;generalize DJ l k=Q at*;generalize Ed (l.drop (min l.length (1+4*k)))=S at*;rw[CF,AD];simp only[];refine oc l n k A _ O hn.2 N S Q hr p2 p3 _ ?_ _ (by simp[AM]) Ac Ac Ac;intro e J' W f3 f4 f5;simp only[AM]at W;simp only[];simp[AB 10 5,v1,W,f3,f4,f5,AM];omega
 .have:k=n.toNat:=AE;subst this;rw[Bj,AN];simp[AB 10 13,AA,AW 10,J]
section
variable {k:Nat}
def MQ{α:Type}{l:List α}{x:α}(h:l[k]?=some x)(f:α->V):(l.map f).take (k+1)=(l.map f).take k++[f x]:=by rw[rx,rk,h];rfl
theorem rE(Z:List D):
  AX (.loop (lG 46 0)) (λe s=>e= .exit 0/\AK s.e 5= .R 0 0/\s.h=[.cells (.W 22 1 (D8.map (AM .i64))::Z)])
   ⟨[(4,((6:Int):D)),(5,.R 0 0),(14,(D8.map (AM .i64):D)),(15,((6:Int):D)),(16,((0:Int):D))],[.cells (.W 22 1 []::Z)]⟩:=by
 refine Ab 6 (λk=>⟨[(4,((6:Int):D)),(5,.R 0 0),(14,(D8.map (AM .i64):D)),(15,((6:Int):D)),(16,(k:D))],[.cells (.W 22 1 ((D8.take k).map (AM .i64))::Z)]⟩) Ac ?_;intro k hk;simp only[Zw,BG 46 0,AB 46 6];simp;have a1:D8.length=6:=rfl;by_cases O:k <6
 .obtain⟨ps,J⟩:∃ps,D8[k]?=some ps:=⟨_,rW AE⟩;have G:=rY J;have U:=(eY ps G).fsp;have W:=(eW ps G).fsp;have p3:=eV ps G;have hw:=Bt k;have e:=MQ J (AM .i64);have hm:min k D8.length=k:=AE;have N:AV (k+1) 24=true:=by simp[AV];omega
  generalize D8=a2 at*;rw[CF,AD];simp only[AB 46 7];simp only[AM]at U W p3 e;simp at U W;simp[J,AM];simp only[AB 46 8];simp;refine⟨_,_,(U _),?_⟩;simp;refine⟨_,_,(W _),?_⟩;simp[AD,Aa,AB 46 10];refine⟨_,_,⟨rfl,rfl⟩,_,p3,?_⟩;simp[hm,N,AB 46 11,hw,O,e]
 .have:k=6:=AE;subst this;rw[Bj,AN];have:(D8.map (AM .i64)).take 6=D8.map (AM .i64):=rfl;simp[this]
def zb:List Bool:=List.replicate 4096 false
def zD:List D:=List.replicate 4096 (.v (.bool false))
def cT:zD=zb.map bv:=by rw[zD,zb,List.map_replicate]
def ZP:zD.map D.toRow=zD:=by rw[zD,List.map_replicate];rfl
def UK:zb.length=4096:=by rw[zb,List.length_replicate]
def V6:List GI:=[⟨none,.p 12 (.build (.nil 22 1::zD) [])⟩,⟨none,.box 13 (.t 12 false)⟩,⟨none,.mv 5 (.t 13 false)⟩]
def V5:(oG 46 4)=V6:=(AB 46 4 :)
def pl:FX 46 [(D8.map (AM .i64):D)] [] [.R 0 0,((0:Int):D)] (Ce (DC 6 zb) (F3 6) (F3 6)):=by refine EH 46 ?_;have q:=rE zD;have N:=nW zb UK;rw[NU,<-cT,H5]at N;generalize Ce (DC 6 zb) (F3 6) (F3 6)=W at*;have G:D8.length=6:=rfl;have O:=ZP;simp only[Zw,As 46,AB 46 0,AB 46 1,AZ];rw[V5];unfold V6;generalize zD=Z at*;generalize D8=U at*;simp[G,AB 46 2,AD];simp[O,AB 46 5,G];refine Ap _ ?_ q;rintro e ⟨se,sh⟩ ⟨rfl,f5,J⟩;simp only at f5 J;subst J;simp[AB 46 12,f5];refine⟨_,_,N,?_⟩;simp[AB 46 14,AA,AW 46,f5]
def p9:FX 9 [] [] [.R 0 0] [.dead]:=by
 have key:FX 9 [] [] [.R 0 0] [NU (DC 6 zb)]:=by
  refine At (D6 9) rfl Ac ?_ ?_ ?_
  .intro row G;simp only[rm]at G;subst G;simp only[NU,Row.low];refine Fb λd hd=>?_;rcases rj.1 hd with rfl|hd
   .rfl
   .obtain⟨b,-,rfl⟩:=rl.1 hd;rfl
  .intro d hd;simp only[rm]at hd;subst hd;rfl
  have N:=jC.fsp;have W:=pl;have e:GZ=(D8.map (AM .i64):V):=rfl;rw[e]at N;have O:∃J,Ce (DC 6 zb) (F3 6) (F3 6)=[NU (DC 6 zb)]++J:=⟨_,rfl⟩;generalize Ce (DC 6 zb) (F3 6) (F3 6)=Z at*;generalize NU (DC 6 zb)=TX at*;generalize D8=U at*;simp at N O;simp only[As 9,AH,AJ,AO,AB 9 0,AB 9 1,AZ];simp;refine⟨_,_,(N _),?_⟩;simp;refine⟨_,_,W,?_⟩;simp[AB 9 2,AD,AB 9 4,AA,AW 9,O]
 exact key.kill 0
end
def VT{k:Int}(h:aP k=true):i64 k:=by simpa[aP,i64]using h
theorem cA:∀f args h x,pV f args h=some x->∀t,OKT t h->FX f args (t.ins Tryz.prog BK h) x.1 (t.ins Tryz.prog BK h++x.2):=by
 intro f args h x hx t N;unfold pV at hx;split at hx
 .rename_i O;subst O;split at hx
  .simp only[rV]at hx;subst hx;have ht:t=[]:=by
    cases t with
    |nil=>rfl
    |cons y t=>have:=N.dead y.1 (by simp[Lp.has]);simp at this
   subst ht;exact p9
  .cases hx
 .split at hx
  .rename_i O;subst O;split at hx
   .rename_i r;split at hx
    .rename_i m Z;have J:=N.get (P:=Tryz.prog) (GL:=BK) Z Ac;split at hx
     .rename_i st ck W;have G:=N.get (P:=Tryz.prog) (GL:=BK) W Ac;simp only[rV]at hx;subst hx;simpa using dY (ks:=[]) J G rfl Ac Ac
     .rename_i k v st ck W;have G:=N.get (P:=Tryz.prog) (GL:=BK) W Ac;split at hx
      .rename_i U;simp only[rV]at hx;subst hx;simpa using dY (ks:=[k]) J G rfl Ac (by simpa using VT U)
      .cases hx
     .cases hx
    .cases hx
   .cases hx
  .cases hx
def qq:PX 20 [] [(true:V)]:=GY Qx cA rO
end Go.Va
namespace Go.Va
end Go.Va
namespace Go.Va
open Go.Proofs
structure Val where
 a:Int
 n:Int
 d:Int
def Val.V(x:Val):V:= .agg [.int .i64 x.a,.int .i64 x.n,.int .i64 x.d]
inductive Th where
 |mk (cs:List Int) (vs:List Val) (ps:List Th)
def Th.cs:Th->List Int| .mk c _ _=>c
def Th.vs:Th->List Val| .mk _ v _=>v
def Th.ps:Th->List Th| .mk _ _ p=>p
def Th.ind{p:Th->Prop}(h:∀cs vs ps,(∀k∈ps,p k)->p (.mk cs vs ps))(f:Th):p f:=
 Th.rec (motive_1:=p) (motive_2:=λl=>∀k∈l,p k) (λcs vs ps N=>h cs vs ps N) (λk G=>by cases G)
  (λx xs hx J k G=>by cases G with|head=>exact hx|tail _ G=>exact J k G) f
mutual
def Th.V:Th->V| .mk cs vs ps=> .agg [AM .i64 cs,.list (vs.map Val.V),.list (Th.Vs ps)]
def Th.Vs:List Th->List V|[]=>[]|k::ks=>k.V::Th.Vs ks
end
def Th.Vs_map:∀l,Th.Vs l=l.map Th.V
 |[]=>rfl
 |k::ks=>by simp[Th.Vs,Th.Vs_map ks]
def Th.V_eq(cs:List Int)(vs:List Val)(ps:List Th):(Th.mk cs vs ps).V= .agg [AM .i64 cs,.list (vs.map Val.V),.list (ps.map Th.V)]:=by simp[Th.V,Th.Vs_map]
def Th.V3(t:Th):∃cs,t.V= .agg cs/\cs.length=3:=by cases t;exact⟨_,Th.V_eq _ _ _,rfl⟩
def Val.ok(x:Val):Prop:=i64 x.a/\i64 x.n/\i64 x.d
inductive Th.ok:Th->Prop
 |mk {cs vs ps} (h1:cs.length<=2^30) (h2:vs.length<=2^30) (h3:ps.length<=2^30) (h4:∀x∈vs,Val.ok x) (h5:∀p∈ps,Th.ok p):Th.ok (.mk cs vs ps)
mutual
def Th.nd:Th->Int->Int->Int| .mk _ _ ps,lv,lf=>if 8 <lv\/lf <1 then -1 else Th.nds ps (lv+1) (lf-1)
def Th.nds:List Th->Int->Int->Int|[],_,lf=>lf|k::ks,lv,lf=>if k.nd lv lf <0 then -1 else Th.nds ks lv (k.nd lv lf)
end
def aD:∀(t:Th)(G lf:Int),0<=lf->t.nd G lf<=lf:=by
 refine Th.ind λcs vs ps O=>?_;intro G lf Z;rw[Th.nd];split
 .omega
 .have:∀(l:List Th),(∀x∈l,∀(G lf:Int),0<=lf->x.nd G lf<=lf)->∀G lf:Int,0<=lf->Th.nds l G lf<=lf:=by
   intro l;induction l with
   |nil=>intro _ G lf _;simp[Th.nds]
   |cons x xs ihx=>
    intro h G lf J;rw[Th.nds];split
    .omega
    .have U:=h x Ac G lf J;have W:=ihx (λy N=>h y (by simp[N])) G (x.nd G lf) AE;omega
  have:=this ps O (G+1) (lf-1) AE;omega
variable {k:Nat}
def E0{α:Type}{l:List α}{x:α}(h:l[k]?=some x):l.drop k=x::l.drop (k+1):=by obtain⟨G,h2⟩:=rZ.1 h;rw[tn G,h2]
theorem oM(G:Int)(h1:0<=G/\G<=8)(all:List Th)(hn:all.length<=2^30)(Q:AExit->St->Prop)(ih:∀p∈all,∀(lf:Int),0<=lf->lf<=2^40->PX 247 [p.V,((G+1:Int):V),.int .i64 lf] [((p.nd (G+1) lf:Int):V)])(lf:Int)(J:List Row)(h2:0<=lf)(Z:lf<=2^40)(R:Int)(O:Th.nds all (G+1) lf=R)(hr:∀e h,R= -1->AK e 6=((-1:Int):D)->Q .ret ⟨e,h⟩)(hs:∀e h,AK e 2=(R:D)->Q (.exit 0) ⟨e,h⟩):
  AX (.loop (lG 247 0)) Q ⟨[(1,(G:D)),(2,.v (.int .i64 lf)),(18,(all.map Th.V:D)),(19,(all.length:D)),(20,((0:Nat):D))],J⟩:=by
 refine Ag all.length (λk s=>∃lf J,s=⟨[(1,(G:D)),(2,.v (.int .i64 lf)),(18,(all.map Th.V:D)),(19,(all.length:D)),(20,(k:D))],J⟩/\0<=lf/\lf<=2^40/\Th.nds (all.drop k) (G+1) lf=R)
  ⟨lf,J,rfl,h2,Z,O⟩ ?_
 rintro k s hk ⟨lf,J,rfl,h2,Z,O⟩;simp only[Zw,BG 247 0,AB 247 5];simp;by_cases U:k <all.length
 .obtain⟨x,hx⟩:∃x,all[k]?=some x:=⟨_,rW U⟩;have hw:=Bt k;have a2:IntKind.i64.wrap (G+1)=G+1:=AS AE AE;have hp:=(ih x (rY hx) lf h2 Z).fsp;have a6:=aD x (G+1) lf h2;rw[E0 hx,Th.nds]at O;generalize x.nd (G+1) lf=N at*;obtain⟨cs,vs,ps⟩:=x;simp[Th.V_eq,AM]at hp;rw[CF,AD];simp only[AB 247 6,AB 247 7];simp[hx,Th.V_eq,a2,AM,AQ];refine⟨_,_,hp _,?_⟩;by_cases W:N <0
  .simp[AB 247 8,W,AB 247 9,AA];rw[if_pos W]at O;exact hr _ _ O.symm rfl
  .rw[if_neg W]at O;simp[AB 247 8,W,AB 247 10,AD,hw,U,O];omega
 .have a1:k=all.length:=AE;subst a1;rw[Bj,AN];refine hs _ _ ?_;simp[Th.nds]at O;simp[O]
def lY:∀(t:Th)(G lf:Int),t.ok->0<=G->G<=2^40->0<=lf->lf<=2^40->PX 247 [t.V,G,lf] [((t.nd G lf:Int):V)]:=by
 refine Th.ind λcs vs ps ih G lf N a1 a2 a3 a4=>?_;obtain⟨ok1,a6,O,a7,U⟩:=N;refine BS 247 ?_;rw[Th.nd];simp only[Zw,As 247,AB 247 0,AB 247 1,Ad];simp[Th.V_eq];by_cases J:8 <G
 .simp[J,AB 247 2,AA,AW 247]
 .by_cases W:lf <1
  .simp[J,W,AB 247 2,AA,AW 247]
  .have hw:IntKind.i64.wrap (lf-1)=lf-1:=AS AE AE;simp[J,W,AD,AB 247 3,AB 247 4,hw];refine oM G ⟨a1,AE⟩ ps O _ (λp Z lf h h'=>ih p Z (G+1) lf (U p Z) AE AE h h') (lf-1) _ AE AE _ rfl ?_ ?_
   .intro e h hR h6;simp[h6,hR,AW 247]
   .intro e h h2;simp[AB 247 11,h2,AA,AW 247]
def RS(t:Th):Bool:=decide (0<=t.nd 1 96)
def nM(t:Th)(h:t.ok):PX 145 [t.V] [.bool (RS t)]:=by refine BS 145 ?_;have G:=(lY t 1 96 h Ah Ah Ah Ah).fsp;unfold RS;generalize t.nd 1 96=N at*;obtain⟨cs,vs,ps⟩:=t;simp only[As 145,AH,AJ,AB 145 0,AB 145 1,Ad];simp[Th.V_eq,AM]at G ⊢;refine⟨_,_,G _,?_⟩;simp[AA,AW 145]
def DS(l:List Int)(m:Int)(k:Nat):Bool:=decide (l.getD k 0 <0\/m<=l.getD k 0\/(0 <k/\l.getD k 0<=l.getD (k-1) 0))
def FO(l:List Int)(m:Int):Bool:= !(List.range l.length).any (DS l m)
theorem di(l:List Int)(m:Int)(hn:l.length<=2^40):PX 250 [AM .i64 l,m] [.bool (FO l m)]:=by
 refine BS 250 ?_;simp only[As 250,AH,AJ,AY,AB 250 0,AB 250 1,Ad];simp[AM];refine Aw l.length (λk=>⟨[(0,.v (AM .i64 l)),(1,(m:D)),(7,.v (AM .i64 l)),(8,(l.length:D)),(9,(k:D))],[]⟩) (λk=>∀j <k,DS l m j=false) (by simp[AM]) AE ?_;intro k hk hI;simp only[Zw,BG 250 0,AB 250 2];simp[AM];by_cases W:k <l.length
 .obtain⟨x,hx⟩:∃x,l[k]?=some x:=⟨_,rW W⟩;have hw:=Bt k;have Z:DS l m k=true↔(x <0\/m<=x\/(0 <k/\x<=l.getD (k-1) 0)):=by unfold DS;rw[decide_eq_true_iff];simp[List.getD,hx]
  have hf:¬(x <0\/m<=x\/(0 <k/\x<=l.getD (k-1) 0))->DS l m k=false:=λh=>by
   cases h':DS l m k with
   |true=>exact absurd (Z.1 h') h
   |false=>rfl
  have ret:DS l m k=true->FO l m=false:=λh=>by unfold FO;rw[EZ W h];rfl
  have go:DS l m k=false->∀j <k+1,DS l m j=false:=λh j hj=>by
   rcases sL j k with h'|h'
   .exact hI j h'
   .have:j=k:=AE;subst this;exact h
  rw[CF,AD];simp only[AB 250 3,AB 250 4];simp[hx];by_cases N:x <0
  .have G:DS l m k=true:=Z.2 (.inl N);simp[N,AA,AB 250 5,AW 250,ret G]
  .by_cases O:m<=x
   .have G:DS l m k=true:=Z.2 (.inr (.inl O));simp[N,O,AA,AB 250 5,AW 250,ret G]
   .cases k with
    |zero=>
     have J:DS l m 0=false:=hf AE;have a2:IntKind.i64.wrap 1=1:=rfl;simp[a2,N,O,AD,AB 250 6,W,go J]
    |succ j=>
     have U:IntKind.i64.wrap (j:Int)=j:=AS AE AE;have a6:(0:Int) <(j:Int)+1:=AE;obtain⟨y,hy⟩:∃y,l[j]?=some y:=⟨_,rW AE⟩;simp only[tN,Int.cast_ofNat_Int]at hw;by_cases b3:x<=y
     .have G:DS l m (j+1)=true:=Z.2 (.inr (.inr ⟨AE,by simp[List.getD,hy,b3]⟩));simp[N,O,b3,U,hy,AA,AB 250 5,AW 250,ret G]
     .have J:DS l m (j+1)=false:=hf (by simp[List.getD,hy];omega);simp[N,O,b3,U,hy,AD,AB 250 6,hw,W];exact go J
 .have a1:k=l.length:=AE;subst a1;rw[Bj,AN];simp[AA,AB 250 7,AW 250];unfold FO;rw[F1 hI];rfl
def DE(x:Val):Bool:=Ef x.n x.d&&decide (x.d<=65536)
mutual
def Th.formed:Th->Bool| .mk cs vs ps=>vs.all DE&&(FO cs 64&&(FO (vs.map Val.a) 32&&Th.formeds ps))
def Th.formeds:List Th->Bool|[]=>true|k::ks=>k.formed&&Th.formeds ks
end
def E9:∀l,Th.formeds l=l.all Th.formed
 |[]=>rfl
 |k::ks=>by simp[Th.formeds,E9 ks]
def dj(t:Th)(h:PX 146 [t.V] [(t.formed:V)]):PX 249 [t.V] [.bool (!t.formed)]:=by refine BS 249 ?_;have G:=h.fsp;generalize t.formed=R at*;obtain⟨cs,vs,ps⟩:=t;simp only[As 249,AH,AJ,AB 249 0,AB 249 1,Ad];simp[Th.V_eq,AM]at G ⊢;refine⟨_,_,G _,?_⟩;simp[AA,AW 249]
def oW(cs:List Int)(vs:List Val)(ps:List Th)(hn:vs.length<=2^30)(hv:∀x∈vs,Val.ok x)(Q:AExit->St->Prop)(hr:∀e h,vs.all DE=false->AK e 2=(false:D)->Q .ret ⟨e,h⟩)(hs:∀J,vs.all DE=true->Q (.exit 0) ⟨[(1,.R 0 0),(3,.W 3 1 ((vs.map Val.a).map (.int .i64))),(8,(vs.map Val.V:D)),(9,(vs.length:D)),(10,(vs.length:D)),(11,(false:D))],
   .cells [.v (AM .i64 cs),(vs.map Val.V:D),(ps.map Th.V:D)]::J⟩):
  AX (.loop (lG 146 0)) Q ⟨[(1,.R 0 0),(3,.W 3 1 []),(8,(vs.map Val.V:D)),(9,(vs.length:D)),(10,((0:Nat):D))],
   [.cells [.v (AM .i64 cs),(vs.map Val.V:D),(ps.map Th.V:D)]]⟩:=by
 refine Ag vs.length (λk s=>∃J,s=⟨[(1,.R 0 0),(3,.W 3 1 (((vs.take k).map Val.a).map (.int .i64))),(8,(vs.map Val.V:D)),(9,(vs.length:D)),(10,(k:D))],
   .cells [.v (AM .i64 cs),(vs.map Val.V:D),(ps.map Th.V:D)]::J⟩/\(vs.take k).all DE=true) ⟨[],Ac,rfl⟩ ?_
 rintro k s hk ⟨J,rfl,hI⟩;simp only[Zw,BG 146 0,AB 146 3];simp;by_cases U:k <vs.length
 .obtain⟨x,hx⟩:∃x,vs[k]?=some x:=⟨_,rW U⟩;have a1:=rY hx;have hw:=Bt k;have W:=hv x a1;have Z:=(W4 x.n x.d W.2.1 W.2.2).fsp;have O:AV (k+1) 8=true:=by simp[AV];omega
  have hm:min k vs.length=k:=AE;have ht:vs.take (k+1)=vs.take k++[x]:=by rw[rx,hx];rfl
  have G:(vs.take (k+1)).all DE=DE x:=by rw[ht,List.all_append,hI];simp
  have N:DE x=false->vs.all DE=false:=λh=>by
   cases h':vs.all DE with
   |false=>rfl
   |true=>exact absurd ((ry.1 h' x a1).symm.trans h) Ah
  have hv:DE x=(Ef x.n x.d&&decide (x.d<=65536)):=rfl;rw[CF,AD];simp only[AB 146 4];simp[hx,Val.V,AQ];simp only[AB 146 5,AB 146 6];simp[hm,O];simp[BE]at Z;cases h1:Ef x.n x.d with
  |false=>
   simp[h1]at Z;refine⟨_,_,Z _,?_⟩;simp[AB 146 7,AA];exact hr _ _ (N (by rw[hv,h1];rfl)) rfl
  |true=>
   simp[h1]at Z;refine⟨_,_,Z _,?_⟩;by_cases h2:65536 <x.d
   .simp[h2,AB 146 7,AA];exact hr _ _ (N (by rw[hv,h1];simp;omega)) rfl
   .have h3:DE x=true:=by rw[hv,h1];simp;omega
    rw[h3]at G;simp[h2,AD,AB 146 8,hw,U];rw[ht]at G;simp at G;exact⟨by simp[rx,hx],by rw[ht];intro y hy;rcases rp.1 hy with h|h;exact G.1 y h;rw[rm.1 h];exact G.2⟩
 .have a2:k=vs.length:=AE;subst a2;rw[Bj,AN];rw[sE]at hI;have:=hs J hI;have e:List.take vs.length (List.map (V.int .i64 ∘ Val.a) vs)=List.map (V.int .i64 ∘ Val.a) vs:=sN Ac;simpa[e]using this
def nK:∀(t:Th),t.ok->PX 146 [t.V] [(t.formed:V)]:=by
 refine Th.ind λcs vs ps ih U=>?_;obtain⟨ok1,W,a2,Z,O⟩:=U;refine BS 146 ?_;have a1:IdxR Tryz.prog BK 249 [] (ps.map Th.V) [] (ps.findIdx? λx=> !x.formed) []:=
  IdxR.map λx hx=>(dj x (ih x hx (O x hx))).fsp []
 have N:=λh=>IdxR.map (P:=Tryz.prog) (GL:=BK) (fid:=249) (caps:=[]) (f:=Th.V) (p:=λx=> !x.formed) (l:=ps) (h:=h) λx hx=>(dj x (ih x hx (O x hx))).fsp h;have G:=λh=>Zu (.v (.func 249 [])) 249 [] (FV.v 249 []) (ps.map Th.V) Dd (by intro x hx;obtain⟨y,_,rfl⟩:=rl.1 hx;exact y.V3) (N h)
 simp only[GK]at G;have q1:=(di cs 64 AE).fsp;have q2:=(di (vs.map Val.a) 32 Dd).fsp;have hl:=λQ=>oW cs vs ps W Z Q;rw[Th.formed,E9];generalize FO cs 64=A at*;generalize FO (vs.map Val.a) 32=B at*;generalize ps.all Th.formed=C at*;generalize vs.all DE=D at*;simp only[As 146,AH,AJ,AY,AB 146 0,AB 146 1,AB 146 2,Ad];simp[Th.V_eq];refine hl _ ?_ ?_
 .rintro e h rfl h2;simp[h2,AW 146]
 .rintro J rfl;simp[AB 146 9];simp only[AB 146 10];simp[AM]at q1 q2 ⊢;refine⟨_,_,q1 _,?_⟩;cases A with
  |false=>simp[AA,AW 146]
  |true=>
   simp;refine⟨_,_,q2 _,?_⟩;cases B with
   |false=>simp[AA,AW 146]
   |true=>
    simp at G ⊢;refine⟨_,_,(G _),?_⟩;simp[AA,AW 146]
def IZ(t:Th):Int:=if RS t then (if t.formed then 0 else 1) else 4
def pg(t:Th)(h:t.ok):PX 67 [t.V] [((IZ t:Int):V)]:=by
 refine BS 67 ?_;have G:=(nM t h).fsp;have J:=(nK t h).fsp;unfold IZ;generalize RS t=A at*;generalize t.formed=B at*;obtain⟨cs,vs,ps⟩:=t;simp only[Zw,As 67,AB 67 0,AB 67 1,Ad];simp[Th.V_eq,AM]at G J ⊢;refine⟨_,_,G _,?_⟩;cases A with
 |false=>simp[AB 67 2,AA,AW 67]
 |true=>
  simp[AB 67 3];refine⟨_,_,J _,?_⟩;cases B with
  |false=>simp[AB 67 4,AA,AW 67]
  |true=>simp[AD,AB 67 5,AA,AW 67]
def lP(x:Val)(n:Int)(h:List Row)(q:Nat)(N:h[q]?=some (.cells [n]))(J:Low h):FX 255 [.v x.V,.R q 0] h [.v (.bool (x.a==n))] h:=by refine At (D6 255) rfl (ri _) J (by simp[D.lt]) ?_;have G:=AU [.cells [x.a,x.n,x.d]] N;simp[As 255,awp,AB 255 0,AB 255 1,AW 255,AZ,Val.V,G]
def L4(t:Th)(n:Int):Option Val:=t.vs.find? λx=>x.a==n
def Gu(t:Th)(n:Int):Int×Int:=match L4 t n with|some x=>(x.n,x.d)|none=>(0,0)
def Mg{α:Type}(p:α->Bool)(l:List α):(l.findIdx? p=none/\l.find? p=none)\/∃i x,l.findIdx? p=some i/\l[i]?=some x/\l.find? p=some x:=by
 cases h:l.findIdx? p with
 |none=>
  refine .inl ⟨rfl,?_⟩;rw[tb];rw[uf]at h;intro x hx;simp[h x hx]
 |some i=>
  obtain⟨G,h2,J⟩:=tQ.1 h;refine .inr ⟨i,l[i],rfl,rW G,?_⟩;rw[List.find?_eq_some_iff_getElem];exact⟨h2,i,G,rfl,λj N=>by simpa using J j N⟩
def nC(t:Th)(n:Int)(W:t.ok):PX 158 [t.V,n] [BE (Gu t n).1 (Gu t n).2,.bool (L4 t n).isSome]:=by
 obtain⟨cs,vs,ps⟩:=t;obtain⟨ok1,a1,a2,a6,a7⟩:=W;have Z:L4 (.mk cs vs ps) n=vs.find? λx=>x.a==n:=rfl;unfold Gu;rw[Z];refine BS 158 ?_;have J:=λh(O:h[1]?=some (.cells [n]))(U:Low h)=>IdxR.map (P:=Tryz.prog) (GL:=BK) (fid:=255) (caps:=[.R 1 0]) (f:=Val.V) (p:=λx=>x.a==n) (l:=vs) (h:=h) λx _=>lP x n h 1 O U;have N:=λh O U=>lQ (.func 255 [.R 1 0]) 255 [.R 1 0] (FV.r 255 1 0 []) (vs.map Val.V) Dd (by intro x hx;obtain⟨y,_,rfl⟩:=rl.1 hx;exact⟨_,rfl,rfl⟩) (J h O U)
 have hf:=Mg (λx:Val=>x.a==n) vs;simp only[As 158,AH,AJ,AO,AB 158 0,AB 158 1,Ad];simp[Th.V_eq];generalize (vs.findIdx? λx=>x.a==n)=I at*;refine⟨_,_,(N _ rfl ?_),?_⟩
 .intro row G;simp[AM]at G;rcases G with rfl|rfl|rfl<;>simp[Row.low,D.lts,D.lt]
 simp only[AB 158 2];rcases hf with ⟨rfl,e2⟩|⟨i,x,rfl,hx,e2⟩
 .rw[e2];simp[Em,AB 158 3,AQ,AA,AW 158,BE]
 .rw[e2];have hi:¬(i:Int) <0:=AE;simp[Em,hi,AD,AB 158 4,hx,Val.V,AQ,AA,AW 158,BE]
def Th.cells(t:Th):List D:=[.v (AM .i64 t.cs),.v (.list (t.vs.map Val.V)),.v (.list (t.ps.map Th.V))]
mutual
def Th.kinds(n:Int):Th->Bool| .mk cs _ ps=>(cs.all λc=> !decide (n<=c))&&Th.kindss n ps
def Th.kindss(n:Int):List Th->Bool|[]=>true|k::ks=>k.kinds n&&Th.kindss n ks
end
def Fq(n:Int):∀l,Th.kindss n l=l.all (Th.kinds n)
 |[]=>rfl
 |k::ks=>by simp[Th.kindss,Fq n ks]
def nH(c n:Int)(h:List Row)(q:Nat)(G:h[q]?=some (.cells [n])):FX 152 [c,.R q 0] h [(decide (n<=c):D)] h:=by refine EH 152 ?_;simp[As 152,awp,AB 152 0,AB 152 1,AW 152,AZ,G]
def nG(t:Th)(n:Int)(h:List Row)(q:Nat)(O:h[q]?=some (.cells [n]))(N:Low h)(J:PX 70 [t.V,n] [.bool (t.kinds n)]):
  FX 154 [.v t.V,.R q 0] h [.v (.bool (!t.kinds n))] h:=by
 refine At (D6 154) rfl (ri _) N (by simp[D.lt]) ?_;have J:=J.fsp;generalize t.kinds n=R at*;obtain⟨cs,vs,ps⟩:=t;have G:=AU [.cells (Th.mk cs vs ps).cells] O;simp only[Th.cells,Th.cs,Th.vs,Th.ps]at G;simp only[As 154,AH,AJ,AB 154 0,AB 154 1,AZ];simp[Th.V_eq,AM]at J G ⊢;simp[G];refine⟨_,_,J _,?_⟩;simp[AA,AW 154]
def qY(n:Int):∀t:Th,t.ok->PX 70 [t.V,n] [.bool (t.kinds n)]:=by
 refine Th.ind λcs vs ps ih Z=>?_;obtain⟨ok1,a2,a6,a7,a1⟩:=Z;refine BS 70 ?_;have O:Low [Row.cells (Th.mk cs vs ps).cells,.cells [n]]:=by intro row G;simp[Th.cells,AM,Th.cs,Th.vs,Th.ps]at G;rcases G with rfl|rfl<;>simp[Row.low,D.lts,D.lt]
 have U:IdxR Tryz.prog BK 152 [.R 1 0] (cs.map (.int .i64)) [.cells (Th.mk cs vs ps).cells,.cells [n]] (cs.findIdx? λc=> !!decide (n<=c)) [.cells (Th.mk cs vs ps).cells,.cells [n]]:=
  IdxR.map λx hx=>by rw[Bool.not_not];exact nH x n _ 1 rfl
 have J:=W8 (.func 152 [.R 1 0]) 152 [.R 1 0] (FV.r 152 1 0 []) (cs.map (.int .i64)) Dd (by intro x hx;obtain⟨y,_,rfl⟩:=rl.1 hx;exact⟨_,rfl⟩) U
 have W:IdxR Tryz.prog BK 154 [.R 1 0] (ps.map Th.V) [.cells (Th.mk cs vs ps).cells,.cells [n]] (ps.findIdx? λc=> !c.kinds n) [.cells (Th.mk cs vs ps).cells,.cells [n]]:=
  IdxR.map λx hx=>nG x n _ 1 rfl O (ih x hx (a1 x hx))
 have N:=Zu (.func 154 [.R 1 0]) 154 [.R 1 0] (FV.r 154 1 0 []) (ps.map Th.V) Dd (by intro x hx;obtain⟨y,_,rfl⟩:=rl.1 hx;exact y.V3) W
 rw[GK]at J N;rw[Th.kinds,Fq];generalize (cs.all λc=> !decide (n<=c))=A at*;generalize (ps.all (Th.kinds n))=B at*;simp only[As 70,AH,AJ,AB 70 0,AB 70 1,Ad];simp[Th.V_eq,AM,Th.cells,Th.cs,Th.vs,Th.ps]at J N ⊢;refine⟨_,_,J,?_⟩;cases A with
 |false=>simp[AA,AW 70]
 |true=>
  simp;refine⟨_,_,N,?_⟩;simp[AA,AW 70]
def qZ(l:List Int)(hn:l.length<=2^40):PX 65 [AM .i64 l] [(((l.find? λx=>x != 0).getD 0:Int):V)]:=by
 refine BS 65 ?_;obtain⟨R,U⟩:∃R,(l.find? λx=>x != 0).getD 0=R:=⟨_,rfl⟩;rw[U];simp only[As 65,AH,AJ,AY,AB 65 0,AB 65 1,AB 65 2,Ad];simp[AM];refine Aw l.length (λk=>⟨[(3,((0:Int):D)),(6,.v (AM .i64 l)),(7,(l.length:D)),(8,(k:D))],[]⟩) (λk=>((l.drop k).find? λx=>x != 0).getD 0=R) (by simp[AM]) (by simpa using U) ?_;intro k Z G;simp only[Zw,BG 65 0,AB 65 3];simp[AM];by_cases O:k <l.length
 .obtain⟨x,hx⟩:∃x,l[k]?=some x:=⟨_,rW O⟩;have W:=Bt k;rw[E0 hx]at G;rw[CF,AD];simp only[AB 65 4,AB 65 5];simp[hx];by_cases J:x=0
  .subst J;simp at G;simp[AD,AB 65 7,W,O,G]
  .simp[J]at G;subst G;simp[J,AB 65 6,AA,AW 65]
 .have N:k=l.length:=AE;subst N;simp at G;rw[Bj,AN];simp[AA,AB 65 8,AW 65,G]
def qR:FX 9 [] [] [.R 0 0] [NU (DC 6 zb)]:=by
 refine At (D6 9) rfl Ac ?_ ?_ ?_
 .intro row G;simp only[rm]at G;subst G;simp only[NU,Row.low];refine Fb λd hd=>?_;rcases rj.1 hd with rfl|hd
  .rfl
  .obtain⟨b,-,rfl⟩:=rl.1 hd;rfl
 .intro d hd;simp only[rm]at hd;subst hd;rfl
 have N:=jC.fsp;have W:=pl;have e:GZ=(D8.map (AM .i64):V):=rfl;rw[e]at N;have O:∃J,Ce (DC 6 zb) (F3 6) (F3 6)=[NU (DC 6 zb)]++J:=⟨_,rfl⟩;generalize Ce (DC 6 zb) (F3 6) (F3 6)=Z at*;generalize NU (DC 6 zb)=TX at*;generalize D8=U at*;simp at N O;simp only[As 9,AH,AJ,AO,AB 9 0,AB 9 1,AZ];simp;refine⟨_,_,(N _),?_⟩;simp;refine⟨_,_,W,?_⟩;simp[AB 9 2,AD,AB 9 4,AA,AW 9,O]
def Dw(ps:List V)(bs:List Bool):Row:= .cells (.W 22 1 ps::bs.map bv)
def jt(ps:List V)(bs:List Bool)(h:List Row)(x:Nat)(hx:h[x]?=some (Dw ps bs)):FX 69 [.R x 0] h [(ps.length:D)] h:=by refine EH 69 ?_;simp[As 69,awp,AB 69 0,AB 69 1,AW 69,AZ,hx,Dw]
def mV(c n:Int)(h:List Row)(q:Nat)(J:h[q]?=some (.cells [n])):FX 208 [c,.R q 0] h [(decide (c <0\/n<=c):D)] h:=by
 refine EH 208 ?_;by_cases G:c <0
 .simp[As 208,awp,AB 208 0,AB 208 1,AW 208,AZ,G]
 .simp[As 208,awp,AB 208 0,AB 208 1,AW 208,AZ,J,G]
def nX(n:Int)(l:List Int)(O:l.length <2^40):PX 120 [.int .i64 n,AM .i64 l] [.bool (l.all λc=>decide (0<=c/\c <n))]:=by
 refine BS 120 ?_;have J:IdxR Tryz.prog BK 208 [.R 0 0] (l.map (V.int .i64)) [.cells [n]] (l.findIdx? λx=> !decide (0<=x/\x <n)) [.cells [n]]:=
  IdxR.map λx hx=>by
   have:=mV x n [.cells [n]] 0 rfl;have e:(decide (x <0\/n<=x))= !decide (0<=x/\x <n):=by
    by_cases N:x <0\/n<=x
    .have h2:¬(0<=x/\x <n):=AE;rw[decide_eq_true N,decide_eq_false h2];rfl
    .have h2:0<=x/\x <n:=AE;rw[decide_eq_false N,decide_eq_true h2];rfl
   rw[e]at this;exact this
 have G:=W8 (.func 208 [.R 0 0]) 208 [.R 0 0] (FV.r 208 0 0 []) (l.map (V.int .i64)) (by simpa using O) (by intro x hx;obtain⟨y,_,rfl⟩:=rl.1 hx;exact⟨_,rfl⟩) J
 rw[GK]at G;simp only[As 120,AH,AJ,AB 120 0,AB 120 1,Ad];simp[AM]
 try simp at G
 refine⟨_,_,G,?_⟩;simp[AA,AW 120,Cf]
def Cj(n:Nat)(bs:List Bool)(c d:Int):Bool:=decide (0<=c/\c <n)&&(decide (0<=d/\d <n)&&(bs[(c*64+d).toNat]?).getD false)
def nD(ps:List V)(bs:List Bool)(a1:ps.length<=64)(G:bs.length=4096)(h:List Row)(x:Nat)(hx:h[x]?=some (Dw ps bs))(c d:Int):
  FX 157 [.R x 0,c,d] h [.v (.bool (Cj ps.length bs c d))] h:=by
 refine EH 157 ?_;have q1:=jt ps bs h x hx;have W:=(nX ps.length [c,d] Ac).fsp;simp[AM]at W;have O:(bs.map bv).length=4096:=by rw[sD,G]
 simp only[As 157,AH,AJ,AB 157 0,AZ];simp;simp only[AB 157 1];simp;refine⟨_,_,q1,?_⟩;simp;refine⟨_,_,W _,?_⟩;unfold Cj;by_cases J:0<=c/\c <ps.length
 .by_cases h2:0<=d/\d <ps.length
  .have k1:c <64:=AE;have k2:d <64:=AE;have Z:(c*64+d).toNat=c.toNat*64+d.toNat:=AE;have e2:1+c.toNat*64+d.toNat=(c.toNat*64+d.toNat)+1:=AE;obtain⟨b,N⟩:∃b,bs[c.toNat*64+d.toNat]?=some b:=⟨_,rW (by rw[G];omega)⟩;have U:1+c.toNat*64+d.toNat<=bs.length:=by rw[G];omega
   rw[Z,N];simp[J,h2,hx,Dw,k1,k2];rw[e2]at U ⊢;simp[N,U,bv,AA,AW 157]
  .have h3:0<=d->(ps.length:Int)<=d:=AE;simp[J,h2,AA,AW 157];exact h3
 .simp[J,AA,AW 157]
def Hb(a b c d:Int):Int:=if Ef a b&&Ef c d then Qm a b c d else 0
def dQ(a b c d:Int)(G:i64 a)(h2:i64 b)(J:i64 c)(N:i64 d):PX 310 [BE a b,BE c d] [((Hb a b c d:Int):V)]:=by
 refine BS 310 ?_;have q:=(dt a b c d G h2 J N).fsp;unfold Hb;cases hk:Ef a b&&Ef c d with
 |true=>
  rw[hk]at q;simp[BE]at q;simp[As 310,awp,AB 310 0,AB 310 1,AB 310 2,AW 310,Ad,BE];refine⟨_,_,q _,?_⟩;simp
 |false=>
  rw[hk]at q;simp[BE]at q;simp[As 310,awp,AB 310 0,AB 310 1,AB 310 2,AW 310,Ad,BE];refine⟨_,_,q _,?_⟩;simp
def Is(x:Ivl)(n d:Int):Bool:=
 (x.li|| !(decide (Hb n d x.ln x.ld <0)||(decide (Hb n d x.ln x.ld=0)&&x.lo)))&&(x.hi|| !(decide (0 <Hb n d x.hn x.hd)||(decide (Hb n d x.hn x.hd=0)&&x.ho)))
def lM(x:Ivl)(hx:x.ok)(n d:Int)(h1:i64 n)(h2:i64 d):PX 259 [x.V,BE n d] [.bool (Is x n d)]:=by
 refine BS 259 ?_;have q1:=(dQ n d x.ln x.ld h1 h2 hx.1 hx.2.1).fsp;have O:=(dQ n d x.hn x.hd h1 h2 hx.2.2.1 hx.2.2.2).fsp;obtain⟨R,G⟩:∃R,Is x n d=R:=⟨_,rfl⟩;rw[G];unfold Is at G;generalize Hb n d x.ln x.ld=a at*;generalize Hb n d x.hn x.hd=b at*;obtain⟨ln,ld,hn,hd,lo,ho,li,hi⟩:=x;simp only at G q1 O;simp[BE]at q1 O;simp only[As 259,AH,AJ,AO,AB 259 0,AB 259 1,AB 259 2,Ad];simp[Ivl.V,BE];cases li with
 |true=>
  simp[AD];simp only[AB 259 6];simp;cases hi with
  |true=>simp[AB 259 10,AA,AW 259,Cf]at G ⊢;exact G
  |false=>
   simp;simp only[AB 259 7];simp;refine⟨_,_,O _,?_⟩;simp only[AB 259 8];by_cases J:0 <b
   .simp[J,AB 259 9,AA,AW 259,Cf]at G ⊢;exact G
   .by_cases N:b=0
    .subst N;cases ho<;>(simp[AB 259 9,AB 259 10,AA,AW 259,Cf]at G ⊢;exact G)
    .simp[J,N,AB 259 10,AA,AW 259,Cf]at G ⊢;exact G
 |false=>
  simp;simp only[AB 259 3];simp;refine⟨_,_,q1 _,?_⟩;simp only[AB 259 4];by_cases U:a <0
  .simp[U,AB 259 5,AA,AW 259,Cf]at G ⊢;exact G
  .by_cases W:a=0/\lo=true
   .obtain⟨rfl,rfl⟩:=W;simp[AB 259 5,AA,AW 259,Cf]at G ⊢;exact G
   .have go:(decide (a <0)||decide (a=0)&&lo)=false:=by
     rw[decide_eq_false U];by_cases a3:a=0
     .have:lo=false:=by cases lo;rfl;exact absurd ⟨a3,rfl⟩ W
      simp[this]
     .simp[a3]
    rw[go]at G;by_cases a3:a=0
    .have Z:lo=false:=by cases lo;rfl;exact absurd ⟨a3,rfl⟩ W
     subst a3;subst Z;simp[AD];simp only[AB 259 6];simp;cases hi with
     |true=>simp[AB 259 10,AA,AW 259,Cf]at G ⊢;exact G
     |false=>
      simp;simp only[AB 259 7];simp;refine⟨_,_,O _,?_⟩;simp only[AB 259 8];by_cases J:0 <b
      .simp[J,AB 259 9,AA,AW 259,Cf]at G ⊢;exact G
      .by_cases N:b=0
       .subst N;cases ho<;>(simp[AB 259 9,AB 259 10,AA,AW 259,Cf]at G ⊢;exact G)
       .simp[J,N,AB 259 10,AA,AW 259,Cf]at G ⊢;exact G
    .simp[U,a3,AD];simp only[AB 259 6];simp;cases hi with
     |true=>simp[AB 259 10,AA,AW 259,Cf]at G ⊢;exact G
     |false=>
      simp;simp only[AB 259 7];simp;refine⟨_,_,O _,?_⟩;simp only[AB 259 8];by_cases J:0 <b
      .simp[J,AB 259 9,AA,AW 259,Cf]at G ⊢;exact G
      .by_cases N:b=0
       .subst N;cases ho<;>(simp[AB 259 9,AB 259 10,AA,AW 259,Cf]at G ⊢;exact G)
       .simp[J,N,AB 259 10,AA,AW 259,Cf]at G ⊢;exact G
def lN(x:Ivl)(hx:x.ok)(n d:Int)(U:i64 n)(h2:i64 d)(h:List Row)(q:Nat)(Z:h[q]?=some (.cells [n,d]))(W:Low h):
  FX 257 [.v x.V,.R q 0] h [.v (.bool (ET x&&Is x n d))] h:=by
 refine At (D6 257) rfl (ri _) W (by simp[D.lt]) ?_;have J:=AU [.cells [x.ln,x.ld,x.hn,x.hd,x.lo,x.ho,x.li,x.hi]] Z;have N:=(dh x hx).fsp;have O:=(lM x hx n d U h2).fsp;generalize ET x=G at*;generalize Is x n d=R at*;simp[Ivl.V,BE]at N O;simp only[As 257,AH,AJ,AB 257 0,AB 257 1,AZ];simp[Ivl.V];refine⟨_,_,N _,?_⟩;cases G with
 |false=>simp[AA,AW 257]
 |true=>
  simp[J];refine⟨_,_,O _,?_⟩;simp[AA,AW 257]
def RZ(l:List Ivl)(n d:Int):Bool:=Ef n d&&l.any λx=>ET x&&Is x n d
def nB(l:List Ivl)(Z:∀x∈l,x.ok)(hn:l.length <2^40)(n d:Int)(W:i64 n)(h2:i64 d):PX 159 [(l.map Ivl.V:V),BE n d] [.bool (RZ l n d)]:=by
 refine BS 159 ?_;have U:=(W4 n d W h2).fsp;have N:IdxR Tryz.prog BK 257 [.R 0 0] (l.map Ivl.V) [.cells [n,d]] (l.findIdx? λx=>ET x&&Is x n d) [.cells [n,d]]:=
  IdxR.map λx hx=>lN x (Z x hx) n d W h2 _ 0 rfl (by intro row G;simp only[rm]at G;subst G;rfl)
 have J:=lO (.func 257 [.R 0 0]) 257 [.R 0 0] (FV.r 257 0 0 []) (l.map Ivl.V) (by simpa using hn) (by intro x hx;obtain⟨y,_,rfl⟩:=rl.1 hx;exact⟨_,rfl,rfl⟩) N
 rw[DG]at J;unfold RZ;generalize Ef n d=O at*;generalize (l.any λx=>ET x&&Is x n d)=R at*;simp[BE]at U J;simp only[As 159,AH,AJ,AB 159 0,AB 159 1,Ad];simp[BE];cases O with
 |false=>
  simp at U;refine⟨_,_,U _,?_⟩;simp[AA,AW 159,Cf]
 |true=>
  simp at U;refine⟨_,_,U _,?_⟩;simp;refine⟨_,_,J,?_⟩;simp[AA,AW 159,Cf]
section
mutual
def F.hold(I:Int->Int->Bool):F->Th->Bool
 | .mk op n ins kids,t=>
  if op=1 then t.cs.any λc=>I c n
  else if op=2 then (L4 t n).isSome&&RZ ins (Gu t n).1 (Gu t n).2
  else if op=3 then t.ps.any λp=>F.hold1 I kids p
  else if op=4 then F.holdA I kids t
  else if op=5 then F.holdO I kids t
  else if op=6 then !F.hold1 I kids t
  else true
def F.hold1(I:Int->Int->Bool):List F->Th->Bool|[],_=>false|k::_,t=>k.hold I t
def F.holdA(I:Int->Int->Bool):List F->Th->Bool|[],_=>true|k::ks,t=>k.hold I t&&F.holdA I ks t
def F.holdO(I:Int->Int->Bool):List F->Th->Bool|[],_=>false|k::ks,t=>k.hold I t||F.holdO I ks t
end
def Kh(I:Int->Int->Bool)(t:Th):∀l,F.holdA I l t=l.all λk=>k.hold I t
 |[]=>rfl
 |k::ks=>by simp[F.holdA,Kh I t ks]
def Kg(I:Int->Int->Bool)(t:Th):∀l,F.holdO I l t=l.any λk=>k.hold I t
 |[]=>rfl
 |k::ks=>by simp[F.holdO,Kg I t ks]
variable {h:List Row}
def Low.apps{X:List Row}(J:Low h)(hx:∀row∈X,Row.low (h.length+X.length) row=true):Low (h++X):=by
 intro row G;rw[re];rcases rp.1 G with h1|h1
 .exact Jh (Nat.le_add_right _ _) row (J row h1)
 .exact hx row h1
variable {n:Nat}
theorem Ji:∀(xs:List V),D.lts n (xs.map .v)=true:=λxs=>Fb λd hd=>by obtain⟨x,_,rfl⟩:=rl.1 hd;rfl
def Nr(n:Nat)(f:F):Row.low n (.cells f.cells)=true:=by obtain⟨op,k,ins,kids⟩:=f;simp[F.cells,Row.low,D.lts,D.lt]
theorem LA(n:Nat)(t:Th):Row.low n (.cells t.cells)=true:=by obtain⟨cs,vs,ps⟩:=t;simp[Th.cells,Row.low,D.lts,D.lt,AM]
section
variable {ps:List V} {bs:List Bool} {H:List Row} {a b x:Nat}
theorem nF(g:F)(t:Th)(O:H[a]?=some (.cells [.R x 0]))(U:H[b]?=some (.cells t.cells))(W:Low H)(R:Bool)(N:FX 71 [.R x 0,.v g.V,.v t.V] (H++[.cells g.cells]) [(R:D)] (H++[.cells g.cells])):
  FX 155 [.v g.V,.R a 0,.R b 0] H [(R:D)] H:=by
 refine At (D6 155) rfl (ri _) W (by simp[D.lt]) ?_;have G:=AU [.cells g.cells] O;have J:=AU [.cells g.cells] U;obtain⟨op,n,ins,kids⟩:=g;obtain⟨cs,vs,Z⟩:=t;simp only[F.cells,F.op,F.n,F.ins,F.kids,F.V_eq,Th.cells,Th.cs,Th.vs,Th.ps,Th.V_eq]at*;simp only[As 155,AH,AJ,AB 155 0,AB 155 1,AZ];simp[AM]at N G J ⊢;simp[G,J];refine⟨_,_,N,?_⟩;simp[AA,AW 155]
theorem m9(g:F)(c:Nat)(hc:H[c]?=some (.cells [.func 155 [.R a 0,.R b 0]]))(N:Low H)(R:Bool)(J:FX 155 [.v g.V,.R a 0,.R b 0] (H++[.cells g.cells]) [(R:D)] (H++[.cells g.cells])):
  FX 161 [.v g.V,.R c 0] H [.v (.bool (!R))] H:=by
 refine At (D6 161) rfl (ri _) N (by simp[D.lt]) ?_;have G:=AU [.cells g.cells] hc;obtain⟨op,n,ins,kids⟩:=g;simp only[F.cells,F.op,F.n,F.ins,F.kids,F.V_eq]at*;simp only[As 161,AH,AJ,AB 161 0,AB 161 1,AZ];simp at J G ⊢;simp[G,D.vs?,D.v?];refine⟨_,_,J,?_⟩;simp[AA,AW 161]
theorem nE(f:F)(J:ps.length<=64)(G:bs.length=4096)(hx:H[x]?=some (Dw ps bs))(N:H[a]?=some (.cells [.R x 0]))(O:H[b]?=some (.cells f.cells))(c:Int):
  FX 156 [c,.R a 0,.R b 0] H [.v (.bool (Cj ps.length bs c f.n))] H:=by
 refine EH 156 ?_;have U:=nD ps bs J G H x hx c f.n;obtain⟨op,n,ins,kids⟩:=f;simp only[F.cells,F.op,F.n,F.ins,F.kids]at*;simp only[As 156,AH,AJ,AB 156 0,AB 156 1,AZ];simp[N,O];refine⟨_,_,U,?_⟩;simp[AA,AW 156]
def nA(op n:Int)(ins:List Ivl)(k:F)(ks:List F)(t:Th)(W:H[a]?=some (.cells [.R x 0]))(Z:H[b]?=some (.cells (F.mk op n ins (k::ks)).cells))(hl:Low H)(R:Bool)(O:FX 71 [.R x 0,.v k.V,.v t.V] (H++[.cells t.cells]) [(R:D)] (H++[.cells t.cells])):
  FX 160 [.v t.V,.R a 0,.R b 0] H [(R:D)] H:=by
 refine At (D6 160) rfl (ri _) hl (by simp[D.lt]) ?_;have G:=AU [.cells t.cells] W;have J:=AU [.cells t.cells] Z;obtain⟨a1,n',U,N⟩:=k;obtain⟨cs,vs,pa⟩:=t;simp only[F.cells,F.op,F.n,F.ins,F.kids,F.V_eq,Th.cells,Th.cs,Th.vs,Th.ps,Th.V_eq,rq]at*;simp only[As 160,AH,AJ,Aa,AB 160 0,AB 160 1,AZ];simp[AM]at O G J ⊢;simp[G,J];refine⟨_,_,O,?_⟩;simp[AA,AW 160]
end
end
def dZ(xs:List Int)(N:xs.length<=2^45):PX 283 [AM .u8 xs,AM .u8 xs] [(true:V)]:=by
 refine BS 283 ?_;simp only[Zw,As 283,AB 283 0,AB 283 1,Ad];simp[AM,AD];simp only[AB 283 3];simp;refine Ab xs.length (λk=>⟨[(0,.v (AM .u8 xs)),(1,.v (AM .u8 xs)),(12,(xs.length:D)),(13,(k:D))],[]⟩) (by simp[AM]) ?_;intro k O;simp only[Zw,BG 283 0,AB 283 4];simp[AM];by_cases G:k <xs.length
 .have hx:xs[k]?=some xs[k]:=rW G;have J:=Bt k;rw[CF,AD];simp only[AB 283 5];simp only[Aa,AB 283 6];simp[hx,AD];simp only[AB 283 8];simp[J,G]
 .have:k=xs.length:=AE;subst this;rw[Bj,AN];simp[AA,AB 283 9,AW 283]
def ku(f:F)(U:f.ok)(W:f.rd)(a1:f.size<=96)(Z:A6 f=0)(hb:(Bi f).length<=2^43):PX 282 [AM .u8 (Bi f)] [f.V,((0:Int):V)]:=by
 refine BS 282 ?_;have N:=(dm f U hb).fsp;rw[if_pos Z,Z]at N;have q2:=(dZ (Bi f) AE).fsp;simp at N q2;simp only[As 282,AH,AJ,AO,AB 282 0,AB 282 1,Ad];simp;refine⟨_,_,(jv (Bi f) AE _),?_⟩;simp only[AB 282 2];simp[AQ];simp only[AB 282 3];simp;have O:=Up f W [.cells [((0:Int):D),((0:Int):D),.W 368 8 [],.W 84 4 []],DO (Bi f),.cells [((96:Int):D)]] 1 2 96 [] Ac Ac Ah (by intro row G;simp only[rj,sK,or_false]at G;rcases G with rfl|rfl|rfl<;>rfl) AE AE (by simpa using hb) Ac Ac
 simp at O;obtain⟨c0,c1,c2,c3,hV⟩:∃a b c d,f.V= .agg [a,b,c,d]:=by cases f;exact⟨_,_,_,_,F.V_eq _ _ _ _⟩
 rw[hV]at O N;refine⟨_,_,O,?_⟩;have k1:¬(96-(f.size:Int) <0):=AE;simp[AQ,D.toRow];simp only[AB 282 4];have J:=Z1 [Row.cells [((0:Int):D),((0:Int):D),.W 368 8 [],.W 84 4 []],DO [],.cells [((96-(f.size:Int):Int):D)],.cells [.v c0,.v c1,.v c2,.v c3]] 1 rfl;simp[k1];refine⟨_,_,J,?_⟩;simp[AD];simp only[AB 282 6];simp[D.vs?,D.v?];refine⟨_,_,N _,?_⟩;simp only[AB 282 7];simp;refine⟨_,_,q2 _,?_⟩;simp;simp only[AB 282 9];simp[AQ,D.toRow,D.vs?,D.v?,hV,AA,AW 282,Cf]
def NZ{l:List Ivl}(h:HT l=0):l.length<=32:=by
 unfold HT at h;split at h
 .cases h
 .split at h
  .cases h
  .omega
def Re{f:F}(h:A6 f=0):f.size<=96:=by
 unfold A6 at h;split at h
 .cases h
 .omega
theorem Vf{f:F}(G:f.ok)(h:A6 f=0):f.rd:=by
 intro g hg;refine⟨G.1 g hg,?_⟩;unfold A6 at h;split at h
 .cases h
 .split at h
  .rename_i J;have:=ry.1 J g hg;unfold BC at this;split at this
   .cases this
   .rename_i O;by_cases h2:g.op=2
    .simp[h2]at this;exact NZ this.2.2.2
    .have:¬0 <g.ins.length:=λN=>O (.inl ⟨h2,N⟩);omega
  .cases h
def PH{l:List Clm}{c:Clm}(hc:c∈l):(Bi c.body).length<=(BM l).length:=by
 unfold BM;have:(Bb c).length<=(l.flatMap Bb).length:=by
  induction l with
  |nil=>cases hc
  |cons x l ih=>
   simp only[r7,re];rcases rj.1 hc with rfl|hc
   .omega
   .have:=ih hc;omega
 simp only[Bb,BR,re]at this ⊢;omega
def mX(l:List Clm)(hl:∀c∈l,c.ok)(hz:CB l=0)(hn:l.length<=32)(W:(BM l).length<=2^39):PX 205 [AM .u8 (BM l)] [(l.map Clm.V:V),((0:Int):V)]:=by
 refine BS 205 ?_;have q1:=(eU l hl AE W).fsp;rw[if_pos hz,hz]at q1;have q2:=(dZ (BM l) AE).fsp;simp at q1 q2;have U:=N8 hz;have a6:∀c∈l,(Bi c.body).length<=2^39:=λc hc=>sS (PH hc) W;simp only[Zw,As 205,AB 205 0,AB 205 1,Ad];simp;refine⟨_,_,(jv (BM l) AE _),?_⟩;simp only[AB 205 2];simp;refine⟨_,_,(M9 l.length (by unfold i64;omega) _ 0 (l.flatMap Bb) rfl),?_⟩;simp only[AB 205 3];simp;simp only[AB 205 4];simp;refine Ag l.length (λk s=>s.e=[(0,.v (AM .u8 (BM l))),(4,.R 0 0),(5,(l.length:D)),(6,.W 130 5 ((l.take k).map Clm.V)),(7,(k:D))]/\∃J,s.h=DO ((l.drop k).flatMap Bb)::J) ⟨rfl,[],Ac⟩ ?_;rintro k ⟨se,sh⟩ hk ⟨he,J,hJ⟩;simp only at he hJ;subst he;subst hJ;have a2:(l.length:Int)<=32:=AE;simp only[Zw,BG 205 0,AB 205 5];by_cases O:k <l.length
 .have hd:l.drop k=l[k]::l.drop (k+1):=tn O;have hc:=hl _ (sy O);have b0:=a6 _ (sy O);have G:=U _ (sy O);obtain⟨c,Z⟩:∃c,c=l[k]:=⟨_,rfl⟩;rw[<-Z]at hd hc b0 G;simp[O,a2,AD];simp only[AB 205 7];simp;obtain⟨R,hR⟩:∃R,R=(l.drop (k+1)).flatMap Bb:=⟨_,rfl⟩;have hX:(BI c.refs++(BR (Bi c.body)++R)).length<=2^39:=by
   have e1:l.flatMap Bb=(l.take k).flatMap Bb++(BI c.refs++(BR (Bi c.body)++R)):=by
    conv=>lhs;rw[<-sa k l,tU,hd,r7,<-hR]
    simp[Bb]
   unfold BM at W;rw[e1]at W;simp only[re]at W ⊢;omega
  have hg:=Fc c.refs;simp only[BI,BR,re]at hX;have a8:(l.drop k).flatMap Bb=BI c.refs++(BR (Bi c.body)++R):=by rw[hd,r7,<-hR];simp[Bb]
  rw[a8,<-hR];refine⟨_,_,(Z4 c.refs hc.1 _ 0 (BR (Bi c.body)++R) (by simp only[BR,re];omega) rfl),?_⟩;simp[AQ,D.toRow];simp only[AB 205 8];simp;refine⟨_,_,(ed (Bi c.body) _ 0 R AE rfl),?_⟩;have hD:=(ku c.body hc.2.2 (Vf hc.2.2 G) (Re G) G AE).fsp;rw[F.V_flds]at hD;simp[AM]at hD;simp;refine⟨_,_,hD _,?_⟩;simp[AQ,D.toRow];simp only[AB 205 9];simp;simp only[AB 205 11];simp[AQ,D.toRow];have N:AV (k+1) 88=true:=by simp[AV];omega
  have a7:min k l.length=k:=AE;have b1:(l.map Clm.V).take (k+1)=(l.map Clm.V).take k++[Clm.V c]:=by rw[<-sQ,<-sQ,tM O,r9,Z];rfl
  have hw:=Bt k;simp only[AB 205 12];simp[D.vs?,D.v?,N,a7,b1];simp only[AB 205 6];simp[hw,Clm.V,AM]
 .have:k=l.length:=AE;subst this;simp[AN];simp only[AB 205 13];simp;have a1:=Z1 (DO []::J) 0 rfl;refine⟨_,_,a1,?_⟩;simp[AD];simp only[AB 205 15];simp;refine⟨_,_,q1 _,?_⟩;simp;simp only[AB 205 16];simp;refine⟨_,_,q2 _,?_⟩;simp;simp only[AB 205 18];simp[AA,AW 205,Cf]
section
def hZ(h:List Row)(x:Nat)(f:F)(t:Th):List Row:=[.cells [.R x 0],.cells f.cells,.cells t.cells,.cells [.func 155 [.R h.length 0,.R (h.length+2) 0]]]
variable {h:List Row}
def Ra{x:Nat}(f:F)(t:Th)(J:Low h)(hx:x <h.length):Low (h++hZ h x f t):=by
 refine J.apps λrow G=>?_;simp only[hZ,rj,sK,or_false]at G;rcases G with rfl|rfl|rfl|rfl
 .simp[Row.low,D.lts,D.lt,hZ];omega
 .exact Nr _ f
 .exact LA _ t
 .simp[Row.low,D.lts,D.lt,hZ]
def aZ{x:Nat}{r:Row}(f:F)(t:Th)(hx:h[x]?=some r):(h++hZ h x f t)[x]?=some r:=AU _ hx
def ae(h:List Row)(x:Nat)(f:F)(t:Th):(h++hZ h x f t)[h.length]?=some (.cells [.R x 0]):=by simp[hZ]
def gp(h:List Row)(x:Nat)(f:F)(t:Th):(h++hZ h x f t)[h.length+1]?=some (.cells f.cells):=by simp[hZ]
def pE(h:List Row)(x:Nat)(f:F)(t:Th):(h++hZ h x f t)[h.length+2]?=some (.cells t.cells):=by simp[hZ]
def pC(h:List Row)(x:Nat)(f:F)(t:Th):(h++hZ h x f t)[h.length+3]?=some (.cells [.func 155 [.R h.length 0,.R (h.length+2) 0]]):=by simp[hZ]
def S7(ps:List V)(bs:List Bool)(f:F):Prop:=∀t:Th,t.ok->∀(h:List Row)(x:Nat),h[x]?=some (Dw ps bs)->Low h->
 FX 71 [.R x 0,.v f.V,.v t.V] h [.v (.bool (f.hold (Cj ps.length bs) t))] h
variable {ps:List V}
def aY{bs:List Bool}(f:F)(cs:List Int)(vs:List Val)(J:List Th)(h:List Row)(x:Nat)(hx:h[x]?=some (Dw ps bs))(O:ps.length<=64)(N:bs.length=4096)(U:cs.length<=2^30):
  FX 151 [.v (AM .i64 cs),.func 156 [.R h.length 0,.R (h.length+1) 0]] (h++hZ h x f (.mk cs vs J)) [.v (.bool (cs.any λc=>Cj ps.length bs c f.n))] (h++hZ h x f (.mk cs vs J)):=by
 have G:IdxR Tryz.prog BK 156 [.R h.length 0,.R (h.length+1) 0] (cs.map (.int .i64)) (h++hZ h x f (.mk cs vs J)) (cs.findIdx? λc=>Cj ps.length bs c f.n) (h++hZ h x f (.mk cs vs J)):=
  IdxR.map λc _=>nE f O N (aZ f _ hx) (ae h x f _) (gp h x f _) c
 have:=W8 _ 156 _ (FV.r 156 h.length 0 [.R (h.length+1) 0]) (cs.map (.int .i64)) Dd (by intro x hx;obtain⟨y,_,rfl⟩:=rl.1 hx;exact⟨_,rfl⟩) G
 rw[DG]at this;exact this
def aX{bs:List Bool}(cs:List Int)(vs:List Val)(G:List Th)(h:List Row)(x:Nat)(hx:h[x]?=some (Dw ps bs))(O:Low h)(op n:Int)(ins:List Ivl)(k:F)(Z:S7 ps bs k)(hn:G.length<=2^30)(W:∀p∈G,p.ok):
  FX 153 [(G.map Th.V:D),.func 160 [.R h.length 0,.R (h.length+1) 0]] (h++hZ h x (.mk op n ins [k]) (.mk cs vs G)) [.v (.bool (G.any λp=>k.hold (Cj ps.length bs) p))] (h++hZ h x (.mk op n ins [k]) (.mk cs vs G)):=by
 have J:=Ra (.mk op n ins [k]) (.mk cs vs G) O (Cs hx);have N:IdxR Tryz.prog BK 160 [.R h.length 0,.R (h.length+1) 0] (G.map Th.V) (h++hZ h x (.mk op n ins [k]) (.mk cs vs G)) (G.findIdx? λp=>k.hold (Cj ps.length bs) p) (h++hZ h x (.mk op n ins [k]) (.mk cs vs G)):=
  IdxR.map λp U=>nA op n ins k [] p (ae h x _ _) (gp h x _ _) J _ (Z p (W p U) _ x (AU _ (aZ _ _ hx)) (J.app (LA _ p)))
 have:=Zu _ 160 _ (FV.r 160 h.length 0 [.R (h.length+1) 0]) (G.map Th.V) Dd (by intro x hx;obtain⟨y,_,rfl⟩:=rl.1 hx;exact y.V3) N
 rw[DG]at this;exact this
def Vc{bs:List Bool}(f:F)(h:List Row)(x:Nat)(hx:h[x]?=some (Dw ps bs))(O:Low h)(k:F)(W:S7 ps bs k)(t:Th)(U:t.ok)(X:List Row)(N:∀row∈X,∃g:F,row= .cells g.cells):
  FX 155 [.v k.V,.R h.length 0,.R (h.length+2) 0] (h++hZ h x f t++X) [.v (.bool (k.hold (Cj ps.length bs) t))] (h++hZ h x f t++X):=by
 have G:=(Ra f t O (Cs hx)).apps (X:=X) (by intro row J;obtain⟨g,rfl⟩:=N row J;exact Nr _ g)
 exact nF k t (AU _ (ae h x f t)) (AU _ (pE h x f t)) G _ (W t U _ x (AU _ (AU _ (aZ f t hx))) (G.app (Nr _ k)))
def Ym(kids:List F):∀x∈kids.map F.V,∃cs,x=V.agg cs/\cs.length=4:=by intro x hx;obtain⟨k,_,rfl⟩:=rl.1 hx;obtain⟨O,N,G,J⟩:=k;exact⟨_,F.V_eq ..,rfl⟩
def Sq(f:F)(h:BC f=true)(G:f.op=3\/f.op=6):∃k,f.kids=[k]:=by
 unfold BC at h;by_cases hc:(f.op≠2/\0 <f.ins.length)\/(f.op≠2/\f.op≠1/\f.n≠0)
 .rw[if_pos hc]at h;cases h
 .rw[if_neg hc,Bj,Bj,Bj,if_pos G]at h
  match f.kids,h with
  |[k],_=>exact⟨k,rfl⟩
def Xe(f:F)(h:BC f=true):f.ins.length<=32:=by
 unfold BC at h;by_cases hc:(f.op≠2/\0 <f.ins.length)\/(f.op≠2/\f.op≠1/\f.n≠0)
 .rw[if_pos hc]at h;cases h
 .by_cases h2:f.op=2
  .rw[if_neg hc,Bj,Bj,if_pos h2]at h;exact NZ (of_decide_eq_true h).2.2.2
  .omega
theorem qX{bs:List Bool}(c4:ps.length<=64)(c0:bs.length=4096):∀f:F,f.ok->f.nodes.all BC=true->S7 ps bs f:=by
 refine F.ind λop n ins kids ih a6 U=>?_;have c5:=a6.2;rw[F.size_eq]at c5;have c7:=F.kids_len kids;have a2:BC (.mk op n ins kids)=true:=by rw[F.nodes_eq]at U;simp only[tz,rX]at U;exact U.1
 have c3:∀k∈kids,k.nodes.all BC=true:=by intro k J;rw[F.nodes_eq]at U;simp only[tz,rX]at U;rw[ry]at U ⊢;exact λg hg=>U.2 g (sj.2 ⟨k,J,hg⟩)
 have b9:∀k∈kids,S7 ps bs k:=λk J=>ih k J (F.ok_kid a6 J) (c3 k J);have ok1:=a6.1 (.mk op n ins kids) (by rw[F.nodes_eq];simp);intro t ht h x hx hl;refine At (D6 71) rfl (ri _) hl (by simp[D.lt]) ?_;obtain⟨R,G⟩:∃R,F.hold (Cj ps.length bs) (.mk op n ins kids) t=R:=⟨_,rfl⟩;rw[G];rw[F.hold]at G;have q2:=(nC t n ht).fsp;have a1:=λh1 h2=>(nB ins ok1.2.2.1 (by have:=Xe _ a2;simp only[F.ins]at this;omega) (Gu t n).1 (Gu t n).2 h1 h2).fsp;have W:=λk J=>Vc (.mk op n ins kids) h x hx hl k (b9 k J) t ht;have a8:=Ra (.mk op n ins kids) t hl (Cs hx);have a7:i64 (Gu t n).1/\i64 (Gu t n).2:=by
  unfold Gu L4;cases hf:t.vs.find? λx=>x.a==n with
  |none=>exact⟨⟨Ah,Ah⟩,⟨Ah,Ah⟩⟩
  |some y=>
   obtain⟨cs,vs,pa⟩:=t;obtain⟨o1,o2,o3,o4,o5⟩:=ht;exact(o4 y (List.mem_of_find?_eq_some hf)).2
 replace a1:=a1 a7.1 a7.2
 clear a7;have c1:op=4->FX 149 [(kids.map F.V:D),.func 161 [.R (h.length+3) 0]] (h++hZ h x (.mk op n ins kids) t) [.v (.bool (!kids.all λk=>k.hold (Cj ps.length bs) t))] (h++hZ h x (.mk op n ins kids) t):=by
  intro _;have Z:IdxR Tryz.prog BK 161 [.R (h.length+3) 0] (kids.map F.V) (h++hZ h x (.mk op n ins kids) t) (kids.findIdx? λk=> !k.hold (Cj ps.length bs) t) (h++hZ h x (.mk op n ins kids) t):=
   IdxR.map λk J=>m9 k _ (pC h x _ t) a8 _ (W k J [.cells k.cells] (by intro row b0;exact⟨k,rm.1 b0⟩))
  have:=W9 _ 161 _ (FV.r 161 (h.length+3) 0 []) (kids.map F.V) Dd (Ym kids) Z;rw[GK]at this;exact this
 have c2:op=5->FX 149 [(kids.map F.V:D),.func 155 [.R h.length 0,.R (h.length+2) 0]] (h++hZ h x (.mk op n ins kids) t) [.v (.bool (kids.any λk=>k.hold (Cj ps.length bs) t))] (h++hZ h x (.mk op n ins kids) t):=by
  intro _;have Z:IdxR Tryz.prog BK 155 [.R h.length 0,.R (h.length+2) 0] (kids.map F.V) (h++hZ h x (.mk op n ins kids) t) (kids.findIdx? λk=>k.hold (Cj ps.length bs) t) (h++hZ h x (.mk op n ins kids) t):=
   IdxR.map λk J=>by have:=W k J [] Ac;rw[sk]at this;exact this
  have:=W9 _ 155 _ (FV.r 155 h.length 0 [.R (h.length+2) 0]) (kids.map F.V) Dd (Ym kids) Z;rw[DG]at this;exact this
 obtain⟨cs,vs,pa⟩:=t;have c6:=ht;obtain⟨o1,o2,o3,o4,o5⟩:=c6;have q1:=aY (.mk op n ins kids) cs vs pa h x hx c4 c0 o1;simp only[Kh,Kg]at G;simp only[Zw,As 71,AB 71 0,AB 71 1,AB 71 2,AZ];simp only[Th.cs,Th.ps,F.n]at G q1;simp only[hZ,F.cells,F.op,F.n,F.ins,F.kids,F.V_eq,Th.cells,Th.cs,Th.vs,Th.ps,Th.V_eq]at*;simp[AM,AQ]at*;simp only[AB 71 3];simp;by_cases b1:op=1
 .simp[b1]at G;simp[b1,AB 71 4];rw[b1]at q1;refine⟨_,_,q1,?_⟩;simp[AA,AW 71,G]
 .simp[b1]at G;simp[b1];simp only[AB 71 5];simp;by_cases b2:op=2
  .simp[b2]at G;simp[b2,AB 71 6];refine⟨_,_,q2 _,?_⟩;generalize L4 (Th.mk cs vs pa) n=O at*;generalize Gu (Th.mk cs vs pa) n=N at*;simp[BE]at a1;simp[BE,AQ,AB 71 7];cases O with
   |none=>simp at G;simp[AA,AW 71,G]
   |some y=>
    simp at G;simp;refine⟨_,_,a1 _,?_⟩;simp[AA,AW 71,G]
  .simp[b2]at G;simp[b2];simp only[AB 71 8];simp;by_cases b3:op=3
   .obtain⟨k,J⟩:=Sq _ a2 (.inl b3);simp only[F.kids]at J;subst J;have q3:=aX cs vs pa h x hx hl op n ins k (b9 k Ac) o3 o5;simp[hZ,F.cells,F.op,F.n,F.ins,F.kids,Th.cells,Th.cs,Th.vs,Th.ps,AM]at q3;simp[b3,F.hold1]at G q3;simp[b3,AB 71 9];refine⟨_,_,q3,?_⟩;simp[AA,AW 71,G]
   .simp[b3]at G;simp[b3];simp only[AB 71 10];simp;by_cases b4:op=4
    .have q4:=c1 b4;simp[b4]at G q4;simp[b4,AB 71 11];refine⟨_,_,q4,?_⟩;simp[AA,AW 71,G]
    .simp[b4]at G;simp[b4];simp only[AB 71 12];simp;by_cases b5:op=5
     .have q5:=c2 b5;simp[b5]at G q5;simp[b5,AB 71 13];refine⟨_,_,q5,?_⟩;simp[AA,AW 71,G]
     .simp[b5]at G;simp[b5];simp only[AB 71 14];simp;by_cases b6:op=6
      .obtain⟨k,J⟩:=Sq _ a2 (.inr b6);simp only[F.kids]at J;subst J;have q6:=W k Ac [];obtain⟨ko,kn,ki,kk⟩:=k;simp[F.V_eq]at q6;simp[b6,F.hold1]at G q6;simp[b6,Aa,AB 71 15,F.V_eq];refine⟨_,_,q6,?_⟩;simp[AA,AW 71,G]
      .simp[b6]at G;simp[b6,AD,AB 71 16,AA,AW 71,G]
end
section
variable {s:St} {Q:AExit->St->Prop} {q:Opd}
def Dp{P:Program}{GL:Ai}{ps:List Nat}{asg body:AC}(n:Nat)(U:s.h.length=n)(fid:Nat)(caps rets:List D)(G h':List Row)(tag:Tag)(W:Dn (q.ev s.e)=some (fid,caps))(O:s.h++[A5 P GL .ready (FI s.e) ps asg body]=G)(N:FSp P GL fid (.yld n::caps) G rets h')(Z:h'[n]?=some (A5 P GL tag (FI s.e) ps asg body))(J:Cg Q ⟨s.e,h'.set n .dead⟩ tag):awp P GL (.rangeF q ps asg body) Q s:=by
 subst U;exact DN fid caps rets G h' tag W O N Z J
def Hi(nc:Int)(g:F):Bool:= !(decide (g.op=1)&&decide (nc<=g.n))
theorem Vg{f:F}(h:A6 f=0):f.nodes.all BC=true:=by
 unfold A6 at h;split at h
 .cases h
 .split at h
  .assumption
  .cases h
def VN(X J:List Row):NG X.length (X++J)=X++List.replicate J.length .dead:=by simp[NG]
variable {h:List Row}
def VJ(J:Low h)(m:Nat):Low (h++List.replicate m .dead):=J.apps (by intro row G;rw[List.eq_of_mem_replicate G];rfl)
section
variable {ps:List V} {bs:List Bool} (h:List Row) (x:Nat) (A B C:Row) (e0:CC)
def PZ(h:List Row)(x:Nat)(A B C:Row)(e0:CC)(v:Int)(t:Tag):List Row:=
 h++[.cells [.R x 0],A,B,.cells [.v (.bool false)],.cells [.v (.int .i64 v)],C,A5 Tryz.prog BK t e0 [23] (lG 25 0) (lG 25 1000)]
theorem jM(W:AK e0 3= .R h.length 0)(h6:AK e0 6= .R (h.length+3) 0)(h7:AK e0 7= .R (h.length+4) 0)(hx:h[x]?=some (Dw ps bs))(g:F)(J:List Row):∃U,Ky Tryz.prog BK (h.length+6) [.v g.V] (PZ h x A B C e0 0 .ready++J) (Hi ps.length g)
   ((if Hi ps.length g then PZ h x A B C e0 0 .ready else PZ h x A B C e0 7 (.done none))++(J++U)):=by
 refine⟨[.cells g.cells],CK (e0:=e0) (ps:=[23]) (asg:=(lG 25 0)) (body:=(lG 25 1000)) (by simp[PZ]) rfl ?_⟩;have q:=λZ=>jt ps bs (h++Z) x (AU Z hx);have G:Hi ps.length g= !(decide (g.op=1)&&decide ((ps.length:Int)<=g.n)):=rfl;generalize Hi ps.length g=b at*;obtain⟨op,n,ins,kids⟩:=g;simp only[F.cells,F.op,F.n,F.ins,F.kids,F.V_eq,PZ]at*;simp only[Zw,E5,BG 25 0,BG 25 1000,AB 25 7];simp[W,h6,h7,AQ];rw[Bf];refine Bc _ (λs hs=>⟨s,.inl rfl,hs⟩) ?_;simp only[AB 25 8];simp;by_cases O:op=1
 .simp[O]at G ⊢;by_cases N:(ps.length:Int)<=n
  .simp[N]at G;subst G
   constructor
   .refine⟨_,_,q _,?_⟩;simp[N,AB 25 9,AQ,AA,BH]
   .refine⟨_,_,q _,?_⟩;simp[N,AB 25 9,AQ,AA,BH]
  .simp[N]at G;subst G
   constructor
   .refine⟨_,_,q _,?_⟩;simp[N,AD,BH]
   .refine⟨_,_,q _,?_⟩;simp[N,AD,BH]
 .simp[O]at G ⊢;simp[G,AD,BH]
def rG(J:AK e0 3= .R h.length 0)(h6:AK e0 6= .R (h.length+3) 0)(N:AK e0 7= .R (h.length+4) 0)(hx:h[x]?=some (Dw ps bs)):∀(G:List F),
  RunY Tryz.prog BK (h.length+6) (G.map F.V) (PZ h x A B C e0 0 .ready) (G.all (Hi ps.length)) (if G.all (Hi ps.length) then PZ h x A B C e0 0 .ready else PZ h x A B C e0 7 (.done none)):=by
 intro G;induction G with
 |nil=>exact⟨rfl,rfl⟩
 |cons n G ih=>
  have O:=jM h x A B C e0 J h6 N hx n;refine⟨Hi ps.length n,_,?_,O,?_⟩
  .split<;>simp[PZ]
  .cases hf:Hi ps.length n with
   |true=>
    simp only[if_true,tz,hf,sV];exact ih
   |false=>simp[hf]
end
def Cq(nc:Int)(f:F)(t:Th):Int:=if A6 f≠0 then A6 f else if IZ t≠0 then IZ t else if f.nodes.all (Hi nc)&&t.kinds nc then 0 else 7
variable {ps:List V}
theorem pt{bs:List Bool}(b3:ps.length<=64)(b2:bs.length=4096)(f:F)(hf:f.ok)(t:Th)(ht:t.ok)(h:List Row)(x:Nat)(hx:h[x]?=some (Dw ps bs))(hl:Low h):
  FX 25 [.R x 0,.v f.V,.v t.V] h [.v (.bool (decide (Cq ps.length f t=0)&&f.hold (Cj ps.length bs) t)),.v (.int .i64 (Cq ps.length f t))] h:=by
 refine At (D6 25) rfl (ri _) hl (by simp[D.lt]) ?_;obtain⟨E,hE⟩:∃E,Cq ps.length f t=E:=⟨_,rfl⟩;have a6:Low (h++[.cells [.R x 0],.cells f.cells,.cells t.cells,.cells [.v (.bool false)],.cells [.v (.int .i64 0)]]):=hl.apps (by
  intro row U;have:=Cs hx;simp only[rj,sK,or_false]at U;rcases U with rfl|rfl|rfl|rfl|rfl
  .simp[Row.low,D.lts,D.lt];omega
  .exact Nr _ f
  .exact LA _ t
  .simp[Row.low,D.lts,D.lt]
  .simp[Row.low,D.lts,D.lt])
 have q1:=cE f hf;have q2:=pg t ht;have q3:=qZ [A6 f,IZ t] Ac;have q4:=jB f;have q5:=λZ=>jt ps bs (h++Z) x (AU Z hx);have q6:=qY ps.length t ht;have q7:=λ(h1:A6 f=0)=>qX b3 b2 f hf (Vg h1) t ht;rw[hE];unfold Cq at hE;generalize A6 f=e1 at*;generalize IZ t=e2 at*;obtain⟨B,hB⟩:∃B,f.hold (Cj ps.length bs) t=B:=⟨_,rfl⟩;rw[hB]at q7 ⊢;generalize t.kinds ps.length=K at*;have a7:=λe0 a1 a2 a3=>rG (ps:=ps) (bs:=bs) h x (.cells f.cells) (.cells t.cells) (.cells f.cells) e0 a1 a2 a3 hx f.nodes;generalize f.nodes.all (Hi ps.length)=O at*;obtain⟨op,n,ins,kids⟩:=f;obtain⟨cs,vs,pa⟩:=t;simp only[F.cells,F.op,F.n,F.ins,F.kids,F.V_eq,Th.cells,Th.cs,Th.vs,Th.ps,Th.V_eq]at*;simp[AM]at q1 q2 q3 q4;simp only[Zw,As 25,AB 25 0,AB 25 1,AZ];simp[AM,AD];simp only[Aa,AB 25 3];simp;refine⟨_,_,⟨rfl,rfl⟩,_,q1,?_⟩;simp;refine⟨_,_,⟨rfl,rfl⟩,_,q2,?_⟩;simp;refine⟨_,_,⟨rfl,rfl⟩,_,q3,?_⟩;generalize hfi:(List.find? (λx=>x != 0) [e1,e2]).getD 0=fe;have N:fe=if e1≠0 then e1 else e2:=by
  subst hfi;by_cases W:e1=0
  .by_cases c2:e2=0
   .simp[W,c2]
   .simp[W,c2]
  .simp[W]
 clear hfi q3;simp[AB 25 4];by_cases b1:fe=0
 .have W:e1=0:=by
   by_cases c:e1=0
   .exact c
   .rw[if_pos c]at N;omega
  have c2:e2=0:=by rw[W]at N;simpa[b1]using N.symm
  simp[W,c2]at hE
  replace q7:=q7 W
  simp[b1,AB 25 6];refine⟨_,_,q4 _,?_⟩;simp;have hr:=a7 (FI [(3,.R h.length 0),(4,.R (h.length+1) 0),(5,.R (h.length+2) 0),(6,.R (h.length+3) 0),(7,.R (h.length+4) 0),(22,.func 147 [.R (h.length+5) 0])]) rfl rfl rfl;obtain⟨J,hp⟩:=XA _ hf _ (h.length+5) _ _ _ hr (by simp[PZ,F.cells,F.op,F.n,F.ins,F.kids])
  replace hp:=hp.kill (h.length+7)
  have hk:=λ(v:Int)(t:Tag)A B C e0=>VN (PZ h x A B C e0 v t) J;simp only[show ∀v t A B C e0,(PZ h x A B C e0 v t).length=h.length+7 from λv t A B C e0=>by simp[PZ]]at hk;generalize J.length=m at hk;cases O with
  |false=>
   simp only[rz,if_false,hk]at hp;refine Dp (h.length+6) Ac 147 [.R (h.length+5) 0] [] _ _ (.done none) rfl ?_ hp ?_ ?_
   .simp[PZ,AM]
   .simp[PZ]
   .have a8:E=7:=by simpa using hE.symm
    simp[Cg,PZ,AW 25,D.one?,D.v?,a8]
  |true=>
   simp only[if_true,hk]at hp;refine Dp (h.length+6) Ac 147 [.R (h.length+5) 0] [] _ _ .ready rfl ?_ hp ?_ ?_
   .simp[PZ,AM]
   .simp[PZ]
   .simp at hE;simp[Cg,PZ];have hL:Low (h++Row.cells [D.R x 0]::Row.cells [D.v (V.int IntKind.i64 op),D.v (V.int IntKind.i64 n),D.v (V.list (List.map Ivl.V ins)),D.v (V.list (List.map F.V kids))]::
      Row.cells [D.v (AM IntKind.i64 cs),D.v (V.list (List.map Val.V vs)),D.v (V.list (List.map Th.V pa))]::Row.cells [D.v (V.bool false)]::Row.cells [D.v (V.int IntKind.i64 0)]::
      Row.cells [D.v (V.int IntKind.i64 op),D.v (V.int IntKind.i64 n),D.v (V.list (List.map Ivl.V ins)),D.v (V.list (List.map F.V kids))]::Row.dead::List.replicate m Row.dead):=by
     have h1:=a6.app (row:=Row.cells [D.v (V.int IntKind.i64 op),D.v (V.int IntKind.i64 n),D.v (V.list (List.map Ivl.V ins)),D.v (V.list (List.map F.V kids))]) (by simp[Row.low,D.lts,D.lt]);have h2:=VJ (h1.app (row:= .dead) rfl) m;simpa using h2
    replace q7:=q7 _ x (AU _ hx) hL
    rw[Bf];refine Bc _ (λs hs=>⟨s,.inl rfl,hs⟩) ?_;simp only[AB 25 10];simp;have G:E=(if K then 0 else 7):=hE.symm
    constructor
    .refine⟨_,_,q5 _,?_⟩;simp;refine⟨_,_,⟨rfl,rfl⟩,_,q6,?_⟩;cases K with
     |false=>simp at G;simp[AB 25 11,AQ,AA,AW 25,D.one?,D.v?,G]
     |true=>
      simp at G;simp[AB 25 12];refine⟨_,_,q7,?_⟩;simp[AQ,AA,AW 25,D.one?,D.v?,G]
    .refine⟨_,_,q5 _,?_⟩;simp;refine⟨_,_,⟨rfl,rfl⟩,_,q6,?_⟩;cases K with
     |false=>simp at G;simp[AB 25 11,AQ,AA,AW 25,D.one?,D.v?,G]
     |true=>
      simp at G;simp[AB 25 12];refine⟨_,_,q7,?_⟩;simp[AQ,AA,AW 25,D.one?,D.v?,G]
 .have b0:E=fe:=by
   rw[N,<-hE];by_cases c:e1=0
   .have c2:e2≠0:=by rw[c]at N;simp at N;omega
    simp[c,c2]
   .simp[c]
  simp[b1,AB 25 5,AQ,AA,AW 25,b0,D.one?,D.v?]
end
section
def Ds(r:Rgt)(how by_:Int):Rgt:=
 let h:=Af how 10
 if h=0 then {r with file:=by_}
 else if h=1 then {r with state:=by_}
 else if h=2 then {r with force:=by_}
 else if h=3 then {r with claims:=r.claims++[⟨[by_],.mk 0 0 [] []⟩]}
 else if h=4 then {r with dates:=r.dates++[⟨(r.claims.length:Int)-1,by_,0,0⟩]}
 else if h=5 then {r with dates:=r.dates++[⟨by_,63,by_,0⟩]}
 else if h=6 then {r with bad:=r.bad++[by_]}
 else if h=7 then {r with owners:=r.owners++[⟨by_,1,1⟩]}
 else if h=8 then {r with owners:=r.owners++[⟨4095,by_,2⟩]}
 else {r with lics:=r.lics++[⟨1,2,5,by_⟩]}
variable {m:Nat}
def Pn{r:Rgt}(h:r.tiny m)(hm:m<=2^40)(W J:Int)(G:i64 J):(Ds r W J).tiny (m+1):=by
 have h0:=h.lc;have O:=h.ld;have h2:=h.lb;have Z:=h.lo;have h4:=h.ll;have U:∀c∈r.claims++[⟨[J],.mk 0 0 [] []⟩],c.tiny:=by
  intro c hc;rcases rp.1 hc with hc|hc
  .exact h.claims c hc
  .simp only[rm]at hc;subst hc;exact⟨by simpa using G,Ac,(Fg (m:=0) (by simp[i64]) Ac).mono Ac⟩
 have N:∀{α:Type}{P:α->Prop}{l:List α}{x:α},(∀y∈l,P y)->P x->∀y∈l++[x],P y:=by
  intro α P l x O h2 y hy;rcases rp.1 hy with hy|hy
  .exact O y hy
  .simp only[rm]at hy;subst hy;exact h2
 have z:i64 0:=by simp[i64]
 unfold Ds;simp only
 repeat' split
 .exact⟨G,h.state,h.force,h.claims,h.dates,h.bad,h.owners,h.lics,by simp only;omega,by simp only;omega,by simp only;omega,by simp only;omega,by simp only;omega⟩
 .exact⟨h.file,G,h.force,h.claims,h.dates,h.bad,h.owners,h.lics,by simp only;omega,by simp only;omega,by simp only;omega,by simp only;omega,by simp only;omega⟩
 .exact⟨h.file,h.state,G,h.claims,h.dates,h.bad,h.owners,h.lics,by simp only;omega,by simp only;omega,by simp only;omega,by simp only;omega,by simp only;omega⟩
 .exact⟨h.file,h.state,h.force,U,h.dates,h.bad,h.owners,h.lics,by simpa using h0,by simp only;omega,by simp only;omega,by simp only;omega,by simp only;omega⟩
 .exact⟨h.file,h.state,h.force,h.claims,N h.dates ⟨by unfold i64;simp only;omega,G,z,z⟩,h.bad,h.owners,h.lics,by simp only;omega,by simpa using O,by simp only;omega,by simp only;omega,by simp only;omega⟩
 .exact⟨h.file,h.state,h.force,h.claims,N h.dates ⟨G,by simp[i64],G,z⟩,h.bad,h.owners,h.lics,by simp only;omega,by simpa using O,by simp only;omega,by simp only;omega,by simp only;omega⟩
 .exact⟨h.file,h.state,h.force,h.claims,h.dates,N h.bad G,h.owners,h.lics,by simp only;omega,by simp only;omega,by simpa using h2,by simp only;omega,by simp only;omega⟩
 .exact⟨h.file,h.state,h.force,h.claims,h.dates,h.bad,N h.owners ⟨G,by simp[i64],by simp[i64]⟩,h.lics,by simp only;omega,by simp only;omega,by simp only;omega,by simpa using Z,by simp only;omega⟩
 .exact⟨h.file,h.state,h.force,h.claims,h.dates,h.bad,N h.owners ⟨by simp[i64],G,by simp[i64]⟩,h.lics,by simp only;omega,by simp only;omega,by simp only;omega,by simpa using Z,by simp only;omega⟩
 .exact⟨h.file,h.state,h.force,h.claims,h.dates,h.bad,h.owners,N h.lics ⟨by simp[i64],by simp[i64],by simp[i64],G⟩,by simp only;omega,by simp only;omega,by simp only;omega,by simp only;omega,by simpa using h4⟩
def aT(l:List Dat):BZ 4 (l.map Dat.V)=true:=by cases l<;>rfl
def aR(l:List Own):BZ 3 (l.map Own.V)=true:=by cases l<;>rfl
def aS(l:List Lic):BZ 4 (l.map Lic.V)=true:=by cases l<;>rfl
def RW(l:List Clm):BZ 5 (l.map Clm.V)=true:=by cases l<;>rfl
def qu(r:Rgt)(O:r.tiny m)(hm:m<=2^20)(J N:Int):PX 12 [r.V,J,N] [(Ds r J N).V]:=by
 refine BS 12 ?_;have p1:=(LZ J 10 Ah).fsp;have r0:=O.lc;have r1:=O.ld;have r2:=O.lb;have r3:=O.lo;have r4:=O.ll;have b0:AV (r.claims.length+1) 88=true:=by simp[AV];omega
 have b1:AV (r.dates.length+1) 32=true:=by simp[AV];omega
 have b2:AV (r.bad.length+1) 8=true:=by simp[AV];omega
 have b3:AV (r.owners.length+1) 24=true:=by simp[AV];omega
 have b4:AV (r.lics.length+1) 32=true:=by simp[AV];omega
 have d0:AV r.claims.length 88=true:=by simp[AV];omega
 have d1:AV r.dates.length 32=true:=by simp[AV];omega
 have d2:AV r.bad.length 8=true:=by simp[AV];omega
 have d3:AV r.owners.length 24=true:=by simp[AV];omega
 have d4:AV r.lics.length 32=true:=by simp[AV];omega
 have w1:IntKind.i64.wrap ((r.claims.length:Int)-1)=r.claims.length-1:=AS AE AE;have hs:Ds r J N=Ds r J N:=rfl;obtain⟨S,G⟩:∃S,Ds r J N=S:=⟨_,rfl⟩;rw[G];unfold Ds at G;generalize Af J 10=h at*;simp at p1;simp only[As 12,AH,AJ,AY,AB 12 0,AB 12 1,Ad];simp[Rgt.V,Rgt.cs,AM,AQ,d1,aT];simp[AB 12 2,d2];simp[AB 12 3,d3,aR];simp[AB 12 4,d4,aS,AB 12 5];refine⟨_,_,p1 _,?_⟩;simp only[AH,AJ,AO,AB 12 7];simp;by_cases U:h=0
 .subst U;simp at G;subst G;simp[AB 12 8,AQ,AB 12 25,AA,AW 12,D.vs?,D.v?]
 by_cases W:h=1
 .subst W;simp at G;subst G;simp[AB 12 9,AB 12 10,AQ,AB 12 25,AA,AW 12,D.vs?,D.v?]
 by_cases h2:h=2
 .subst h2;simp at G;subst G;simp[AB 12 9,AB 12 11,AB 12 12,AQ,AB 12 25,AA,AW 12,D.vs?,D.v?]
 by_cases Z:h=3
 .subst Z;simp at G;subst G;simp[AB 12 9,AB 12 11,AB 12 13,AB 12 14,AQ,b0,d0,RW,AB 12 25,AA,AW 12,D.vs?,D.v?,Clm.V,F.op,F.n,F.ins,F.kids,AM]
 by_cases h4:h=4
 .subst h4;simp at G;subst G;simp[AB 12 9,AB 12 11,AB 12 13,AB 12 15,AB 12 16,AQ,b1,w1,AB 12 25,AA,AW 12,D.vs?,D.v?,Dat.V]
 by_cases h5:h=5
 .subst h5;simp at G;subst G;simp[AB 12 9,AB 12 11,AB 12 13,AB 12 15,AB 12 17,AB 12 18,AQ,b1,AB 12 25,AA,AW 12,D.vs?,D.v?,Dat.V]
 by_cases h6:h=6
 .subst h6;simp at G;subst G;simp[AB 12 9,AB 12 11,AB 12 13,AB 12 15,AB 12 17,AB 12 19,AB 12 20,AQ,b2,AB 12 25,AA,AW 12,D.vs?,D.v?]
 by_cases h7:h=7
 .subst h7;simp at G;subst G;simp[AB 12 9,AB 12 11,AB 12 13,AB 12 15,AB 12 17,AB 12 19,AB 12 21,AB 12 22,AQ,b3,AB 12 25,AA,AW 12,D.vs?,D.v?,Own.V]
 by_cases h8:h=8
 .subst h8;simp at G;subst G;simp[AB 12 9,AB 12 11,AB 12 13,AB 12 15,AB 12 17,AB 12 19,AB 12 21,AB 12 23,AB 12 24,AQ,b3,AB 12 25,AA,AW 12,D.vs?,D.v?,Own.V]
 simp[U,W,h2,Z,h4,h5,h6,h7,h8]at G;subst G;simp[U,W,h2,Z,h4,h5,h6,h7,h8,AB 12 9,AB 12 11,AB 12 13,AB 12 15,AB 12 17,AB 12 19,AB 12 21,AB 12 23,AB 12 6,AQ,b4,AB 12 25,AA,AW 12,D.vs?,D.v?,Lic.V]
end
def C7(a n:Int)(J:i64 a):0<=Af a n:=by
 unfold Af;unfold i64 at J;split
 .have G:IntKind.i64.wrap (a+1)=a+1:=AS AE AE;have e2:IntKind.i64.wrap (0-(a+1))=0-(a+1):=AS AE AE;rw[G,e2];exact vK _ AE
 .exact vK _ AE
theorem P4(l:List Int)(G:∀n∈l,i64 n)(i n:Int):0<=Aq l i n:=by
 unfold Aq;split
 .omega
 .split
  .rename_i x hx;exact C7 x n (G x (rY hx))
  .omega
def Kr(k:Int):List Int:=((List.range 6).filter λc=>(k.fdiv (2^(min c IntKind.i64.bits))).tmod 3==1).map λ(c:Nat)=>(c:Int)
def Pj:List (Int×Int):=[(0,1),(1,1),(1,2),(3,2),(2,1),(-1,1),(5,1),(7,3)]
def OQ(l:List Int)(at_ i:Nat):Option Val:=
 let k:=Aq l ((at_+i:Nat):Int) 1048576
 if k.tmod 3=0 then (let r:=(Pj[(((IntKind.i64.wrap (k.tdiv 3)).tmod 8).toNat)]?).getD (0,1);some ⟨i,r.1,r.2⟩) else none
def Dv(l:List Int)(at_ n:Nat):List Val:=(List.range n).filterMap (OQ l at_)
def DX(f:Nat->Th×Nat)(len:Nat):Nat->Nat->List Th×Nat
 |0,at_=>([],at_)
 |n+1,at_=>if at_ <len then ((f at_).1::(DX f len n (f at_).2).1,(DX f len n (f at_).2).2) else ([],at_)
def Ho(l:List Int):Nat->Nat->Th×Nat
 |0,at_=>(.mk (Kr (Aq l at_ 1048576)) (Dv l (at_+1) 3) [],at_+5)
 |d+1,at_=>(.mk (Kr (Aq l at_ 1048576)) (Dv l (at_+1) 3) (DX (Ho l d) l.length (Aq l ((at_+4:Nat):Int) 4).toNat (at_+5)).1,(DX (Ho l d) l.length (Aq l ((at_+4:Nat):Int) 4).toNat (at_+5)).2)
def Gz(f:Nat->Th×Nat)(len:Nat):∀n G,(DX f len n G).1.length<=n
 |0,G=>by simp[DX]
 |n+1,G=>by
  rw[DX];split
  .have:=Gz f len n (f G).2;simp;omega
  .simp
def Ni(f:Nat->Th×Nat)(len B:Nat)(J:∀a,(f a).2<=a+B):∀n G,(DX f len n G).2<=G+n*B
 |0,G=>by simp[DX]
 |n+1,G=>by
  rw[DX];split
  .have N:=Ni f len B J n (f G).2;have h2:=J G;rw[tZ];simp only;omega
  .simp
def G0(f:Nat->Th×Nat)(len:Nat)(p:Th->Prop)(J:∀a,p (f a).1):∀n G,∀x∈(DX f len n G).1,p x
 |0,G,x,hx=>by simp[DX]at hx
 |n+1,G,x,hx=>by
  rw[DX]at hx;split at hx
  .rcases rj.1 hx with rfl|hx
   .exact J G
   .exact G0 f len p J n _ x hx
  .cases hx
def QI(l:List Int)(i:Int):(Aq l i 4).toNat<=3:=by have:=Ez l i 4 Ah;omega
def UT(l:List Int):∀d G,(Ho l d G).2<=G+5*4^d
 |0,G=>by simp[Ho]
 |d+1,G=>by have h:=Ni (Ho l d) l.length _ (UT l d) (Aq l ((G+4:Nat):Int) 4).toNat (G+5);have h2:=QI l ((G+4:Nat):Int);have J:(Aq l ((G+4:Nat):Int) 4).toNat*(5*4^d)<=3*(5*4^d):=t7 _ h2;have N:1<=4^d:=Nat.one_le_pow _ _ Ah;rw[Ho,Nat.pow_succ];simp only;omega
def Wh:∀r∈Pj,(Ef r.1 r.2&&decide (r.2<=65536))=true/\(-9223372036854775808<=r.1/\r.1 <9223372036854775808)/\ -9223372036854775808<=r.2/\r.2 <9223372036854775808:=Ah
def UV(j:Nat):(Pj[j]?).getD (0,1)∈Pj:=by
 cases h:Pj[j]? with
 |none=>simp[Pj]
 |some r=>exact rY h
def JN(l:List Int)(a i:Nat)(hi:i<=3)(x:Val)(hx:OQ l a i=some x):x.a=i/\DE x=true/\x.ok:=by
 unfold OQ at hx;simp only at hx;split at hx
 .simp only[rV]at hx;have G:=UV ((IntKind.i64.wrap ((Aq l ((a+i:Nat):Int) 1048576).tdiv 3)).tmod 8).toNat;generalize (Pj[((IntKind.i64.wrap ((Aq l ((a+i:Nat):Int) 1048576).tdiv 3)).tmod 8).toNat]?).getD (0,1)=r at hx G;subst hx;obtain⟨J,h2,N⟩:=Wh r G;exact⟨rfl,J,by simp only[i64];omega,h2,N⟩
 .cases hx
def Sl(l:List Int)(m:Int)(O:∀x∈l,0<=x/\x <m)(h2:l.Pairwise (· <·)):FO l m=true:=by
 unfold FO;have:((List.range l.length).any (DS l m))=false:=by
  rw[tD];intro k G;have G:=sM.1 G;have hx:l[k]?=some l[k]:=rW G;have U:=O _ (sy G);unfold DS;simp only[List.getD,hx,sA,decide_eq_true_eq];intro N;rcases N with N|N|⟨N,hc⟩
  .omega
  .omega
  .have J:k-1 <l.length:=AE;have:=List.pairwise_iff_getElem.1 h2 (k-1) k J G AE;simp only[rW J,sA]at hc;omega
 rw[this];rfl
def J6(k:Int):FO (Kr k) 64=true/\(Kr k).length<=6/\∀c∈Kr k,0<=c/\c <6:=by
 have G:∀c∈Kr k,0<=c/\c <6:=by intro c hc;unfold Kr at hc;obtain⟨n,J,rfl⟩:=rl.1 hc;have:=sM.1 (sx.1 J).1;omega
 refine⟨Sl _ _ (λx hx=>by have:=G x hx;omega) ?_,?_,G⟩
 .unfold Kr;rw[List.pairwise_map];refine List.Pairwise.imp (λh=>AE) ((uW (n:=6)).filter _)
 .unfold Kr;rw[sD];have:=sZ (λ(c:Nat)=>(k.fdiv (2^(min c IntKind.i64.bits))).tmod 3==1) (List.range 6);simpa using this
def JM(l:List Int)(a:Nat):(Dv l a 3).all DE=true/\FO ((Dv l a 3).map Val.a) 32=true/\(Dv l a 3).length<=3/\∀x∈Dv l a 3,x.ok:=by
 have G:∀x∈Dv l a 3,∃i,i <3/\OQ l a i=some x:=by intro x hx;obtain⟨i,hi,hx⟩:=List.mem_filterMap.1 hx;exact⟨i,sM.1 hi,hx⟩
 refine⟨ry.2 λx hx=>?_,Sl _ _ (λy J=>?_) ?_,?_,λx hx=>?_⟩
 .obtain⟨i,hi,hx⟩:=G x hx;exact(JN l a i AE x hx).2.1
 .obtain⟨x,hx,rfl⟩:=rl.1 J;obtain⟨i,hi,hx⟩:=G x hx;rw[(JN l a i AE x hx).1];omega
 .rw[List.pairwise_map];unfold Dv;rw[List.pairwise_filterMap];refine List.Pairwise.imp_of_mem ?_ (uW (n:=3));intro i j hi N O x hx y J;have hi:=sM.1 hi;have N:=sM.1 N;rw[(JN l a i AE x hx).1,(JN l a j AE y J).1];omega
 .have:=tx (OQ l a) (List.range 3);simpa[Dv]using this
 .obtain⟨i,hi,hx⟩:=G x hx;exact(JN l a i AE x hx).2.2
structure Th.good (t:Th):Prop where
 ok:t.ok
 fm:t.formed=true
 kd:t.kinds 6=true
def Pi(l:List Int):∀d G,(Ho l d G).1.good
 |0,G=>by
  obtain⟨J,Z,N⟩:=J6 (Aq l G 1048576);obtain⟨U,W,v3,v4⟩:=JM l (G+1);rw[Ho];refine⟨.mk AE AE Ac v4 Ac,?_,?_⟩
  .rw[Th.formed,U,J,W];rfl
  .rw[Th.kinds,Th.kindss,uP,ry];intro c hc;have:=N c hc;simp;omega
 |d+1,G=>by
  obtain⟨J,Z,N⟩:=J6 (Aq l G 1048576);obtain⟨U,W,v3,v4⟩:=JM l (G+1);have O:=G0 (Ho l d) l.length Th.good (Pi l d) (Aq l ((G+4:Nat):Int) 4).toNat (G+5);have hn:=Gz (Ho l d) l.length (Aq l ((G+4:Nat):Int) 4).toNat (G+5);have h3:=QI l ((G+4:Nat):Int);rw[Ho];refine⟨.mk AE AE AE v4 (λp h=>(O p h).ok),?_,?_⟩
  .rw[Th.formed,U,J,W,E9];simp only[sV];exact ry.2 λp h=>(O p h).fm
  .rw[Th.kinds,Fq,rX];refine⟨ry.2 λc hc=>?_,ry.2 λp h=>(O p h).kd⟩;have:=N c hc;simp;omega
def F4:Nat->Int
 |0=>1
 |d+1=>1+3*F4 d
def Nb:∀d,0 <F4 d
 |0=>by simp[F4]
 |d+1=>by have:=Nb d;rw[F4];omega
def VG(S G:Int)(J:0 <S):∀(ps:List Th),(∀p∈ps,∀lf,S<=lf->lf-S<=p.nd G lf)->∀lf,ps.length*S<=lf->lf-ps.length*S<=Th.nds ps G lf
 |[],_,lf,h=>by simp[Th.nds]
 |p::ps,hp,lf,h=>by
  have e:((p::ps).length:Int)*S=ps.length*S+S:=by rw[sF,tN,uS];simp
  have U:0<=(ps.length:Int)*S:=uE AE AE;rw[e]at h ⊢;have O:=hp p Ac lf AE;have h2:=VG S G J ps (λq N=>hp q (by simp[N])) (p.nd G lf) AE;rw[Th.nds,Bj];omega
def US(l:List Int):∀(d G:Nat)(J lf:Int),J+d<=8->F4 d<=lf->lf-F4 d<=(Ho l d G).1.nd J lf
 |0,G,J,lf,h1,h2=>by simp only[F4]at h2 ⊢;rw[Ho,Th.nd,Bj,Th.nds];omega
 |d+1,G,J,lf,h1,h2=>by have N:=Nb d;simp only[F4]at h2 ⊢;rw[Ho,Th.nd,Bj];have O:=G0 (Ho l d) l.length (λp=>∀lf,F4 d<=lf->lf-F4 d<=p.nd (J+1) lf) (λa lf h=>US l d a (J+1) lf AE h) (Aq l ((G+4:Nat):Int) 4).toNat (G+5);have Z:=Gz (Ho l d) l.length (Aq l ((G+4:Nat):Int) 4).toNat (G+5);have U:=QI l ((G+4:Nat):Int);generalize (DX (Ho l d) l.length (Aq l ((G+4:Nat):Int) 4).toNat (G+5)).1=ps at*;have W:(ps.length:Int)*F4 d<=3*F4 d:=tJ AE AE;have:=VG (F4 d) (J+1) N ps O (lf-1) AE;omega
def SF(l:List Int)(G:Nat):IZ (Ho l 2 G).1=0:=by unfold IZ RS;have h:=US l 2 G 1 96 Ah Ah;have e:F4 2=13:=Ah;rw[e]at h;rw[decide_eq_true AE,(Pi l 2 G).fm];rfl
inductive Th.small:Th->Prop
 |mk {cs vs ps} (h1:cs.length<=2^20) (h2:vs.length<=2^20) (h3:ps.length<=2^20) (h5:∀p∈ps,Th.small p):Th.small (.mk cs vs ps)
def ib:AC:=(.seq (.reg (oG 62 2) [1,2,3]) (.seq (.reg (oG 62 3) [1,2,3]) (.seq (.seq (.reg (oG 62 4) [2,3,30,31,32]) (.block 0 (.loop (lG 62 0)))) (.seq (.reg (oG 62 9) [2]) .ret))))
def zP:List D:=[.W 3 1 [],.W 171 3 [],.W 58 3 []]
def rD(cs:List Int)(vs:List Val)(ps:List Th)(hn:ps.length<=2^20)(ih:∀p∈ps,PX 62 [p.V] [p.V])(R0 N O U:Row)(Q:AExit->St->Prop)(hQ:∀e J,AK e 2= .R 1 0->AK e 3= .R 5 0->Q (.exit 0) ⟨e,R0::N::O::U:: .cells ((ps.flatMap λp=>p.cells)):: .cells [.sr 2 cs.length,.sr 3 vs.length,.sr 4 ps.length]::J⟩):
  AX (.loop (lG 62 0)) Q ⟨[(2,.R 1 0),(3,.R 5 0),(30,(ps.map Th.V:D)),(31,(ps.length:D)),(32,((0:Nat):D))],
   R0::N::O::U:: .cells (List.replicate ps.length zP).flatten:: .cells [.sr 2 cs.length,.sr 3 vs.length,.sr 4 ps.length]::[]⟩:=by
 refine Ag ps.length (λk s=>∃J,s=⟨[(2,.R 1 0),(3,.R 5 0),(30,(ps.map Th.V:D)),(31,(ps.length:D)),(32,(k:D))],
   R0::N::O::U:: .cells (((ps.take k).flatMap λp=>p.cells)++(List.replicate (ps.length-k) zP).flatten):: .cells [.sr 2 cs.length,.sr 3 vs.length,.sr 4 ps.length]::J⟩) ⟨[],Ac⟩ ?_
 rintro k s hk ⟨J,rfl⟩;simp only[Zw,BG 62 0,AB 62 5];simp;by_cases G:k <ps.length
 .obtain⟨p,hp⟩:∃p,ps[k]?=some p:=⟨_,rW G⟩;have q:=ih p (rY hp);have w1:=Bt k;have a6:ps.take (k+1)=ps.take k++[p]:=by rw[rx,hp];rfl
  have e1:ps.length-k=(ps.length-(k+1))+1:=AE;have a1:∀(l:List Th),(l.flatMap λp=>p.cells).length=3*l.length:=by
   intro l;induction l with
   |nil=>rfl
   |cons x l ih=>rw[r7,re,ih,sF];simp[Th.cells];omega
  have hA:=a1 (ps.take k);rw[sJ,tY AE]at hA;rw[a6,tU,e1,u7,List.flatten_cons];generalize ((ps.take k).flatMap λp=>p.cells)=A at*;generalize (List.replicate (ps.length-(k+1)) zP).flatten=Zs at*;obtain⟨c1,v1,p1⟩:=p;simp only[Th.V_eq,AM]at q;rw[CF,AD];simp only[AB 62 6];simp[hp,Th.V_eq,AM,AQ];simp only[Aa,AB 62 7];simp;refine⟨_,_,⟨rfl,rfl⟩,_,q,?_⟩;have a2:∀(a b c x y z:D),AQ (A++a::b::c::Zs) (k*3) [x,y,z]=A++x::y::z::Zs:=by intro a b c x y z;have Z:k*3=A.length:=AE;unfold AQ;rw[Z];simp[List.drop_append]
  simp[G,zP];rw[a2,CF];simp[AB 62 8,w1,Th.cells,Th.cs,Th.vs,Th.ps,AM]
 .have W:k=ps.length:=AE;subst W;rw[Bj,AN,sE,uD];simp only[List.replicate_zero,List.flatten_nil,sk];exact hQ _ J rfl rfl
def Om{n:Nat}:∀xs:List V,D.lts n (xs.map .v)=true
 |[]=>rfl
 |x::xs=>by simp only[rq,D.lts,D.lt,Om xs,Bool.and_self]
def Le:∀l:List V,D.vs? (l.map D.v)=some l
 |[]=>rfl
 |x::l=>by have:=Le l;simp only[rq,D.vs?,D.v?,this]
def bS:(gA 62)=(.seq (.reg (oG 62 0) [1,2]) (.seq (.regA (oG 62 1) [1,2,3] [[],[0],[0,1],[0,1,2],[],[4],[4,5],[4,5,6],[],[8],[8,9],[8,9,10],[0,1,2,3,4,5,6,7,8,9,10,11],[],[0,1,2,3,4,5,6,7,8,9,10,11,12,13]] (.take 0 (.take 1 (.take 2 (.take 4 (.take 5 (.take 6 (.take 8 (.take 9 (.take 10 (.pick (.alt 3 (.pick (.alt 7 (.pick (.alt 11 (.take 12 (.take 13 (.take 14 .done))) (.alt 13 (.take 11 (.take 12 (.take 14 .done))) .none))) (.alt 11 (.pick (.alt 7 (.take 12 (.take 13 (.take 14 .done))) (.alt 13 (.take 7 (.take 12 (.take 14 .done))) .none))) (.alt 13 (.pick (.alt 7 (.take 11 (.take 12 (.take 14 .done))) (.alt 11 (.take 7 (.take 12 (.take 14 .done))) .none))) .none)))) (.alt 7 (.pick (.alt 3 (.pick (.alt 11 (.take 12 (.take 13 (.take 14 .done))) (.alt 13 (.take 11 (.take 12 (.take 14 .done))) .none))) (.alt 11 (.pick (.alt 3 (.take 12 (.take 13 (.take 14 .done))) (.alt 13 (.take 3 (.take 12 (.take 14 .done))) .none))) (.alt 13 (.pick (.alt 3 (.take 11 (.take 12 (.take 14 .done))) (.alt 11 (.take 3 (.take 12 (.take 14 .done))) .none))) .none)))) (.alt 11 (.pick (.alt 3 (.pick (.alt 7 (.take 12 (.take 13 (.take 14 .done))) (.alt 13 (.take 7 (.take 12 (.take 14 .done))) .none))) (.alt 7 (.pick (.alt 3 (.take 12 (.take 13 (.take 14 .done))) (.alt 13 (.take 3 (.take 12 (.take 14 .done))) .none))) (.alt 13 (.pick (.alt 3 (.take 7 (.take 12 (.take 14 .done))) (.alt 7 (.take 3 (.take 12 (.take 14 .done))) .none))) .none)))) (.alt 13 (.pick (.alt 3 (.pick (.alt 7 (.take 11 (.take 12 (.take 14 .done))) (.alt 11 (.take 7 (.take 12 (.take 14 .done))) .none))) (.alt 7 (.pick (.alt 3 (.take 11 (.take 12 (.take 14 .done))) (.alt 11 (.take 3 (.take 12 (.take 14 .done))) .none))) (.alt 11 (.pick (.alt 3 (.take 7 (.take 12 (.take 14 .done))) (.alt 7 (.take 3 (.take 12 (.take 14 .done))) .none))) .none)))) .none))))))))))))))) ib)):=(As 62 :)
def pj{t:Th}(ht:t.small):PX 62 [t.V] [t.V]:=by
 induction ht with
 | @mk cs vs ps n1 n2 n3 _ ih=>
 have hx:∀l:List Th,(l.flatMap λp=>p.cells)=((l.map Th.V).flatMap V.cells).map .v:=by
  intro l;induction l with
  |nil=>rfl
  |cons x l ih=>obtain⟨a,b,c⟩:=x;rw[r7,ih,rq,r7,r9,Th.V_eq];rfl
 have f0:FX 62 [.v (Th.mk cs vs ps).V] [] [.agg [.sr 2 cs.length,.sr 3 vs.length,.sr 4 ps.length]]
   [.cells [.v (AM .i64 cs),(vs.map Val.V:D),(ps.map Th.V:D)],.cells [.sr 2 cs.length,.sr 3 vs.length,.sr 4 ps.length],.cells (((cs.map (V.int .i64)).flatMap V.cells).map .v),.cells (((vs.map Val.V).flatMap V.cells).map .v),.cells (ps.flatMap λp=>p.cells),.cells [.sr 2 cs.length,.sr 3 vs.length,.sr 4 ps.length]]:=by
  have a1:∀row∈[Row.cells [.v (AM .i64 cs),(vs.map Val.V:D),(ps.map Th.V:D)],.cells [.sr 2 cs.length,.sr 3 vs.length,.sr 4 ps.length],.cells (((cs.map (V.int .i64)).flatMap V.cells).map .v),.cells (((vs.map Val.V).flatMap V.cells).map .v),.cells (ps.flatMap λp=>p.cells),.cells [.sr 2 cs.length,.sr 3 vs.length,.sr 4 ps.length]],Row.low 6 row=true:=by
   rw[hx];intro row W;simp only[rj,sK,or_false]at W;rcases W with rfl|rfl|rfl|rfl|rfl|rfl
   .rfl
   .rfl
   .exact Om _
   .exact Om _
   .exact Om _
   .rfl
  refine At (D6 62) rfl Ac a1 (by simp[D.lt,D.lts]) ?_;rw[bS,AH,AJ];simp[AB 62 0,AZ,Th.V_eq,AM];rw[AH,Bf];obtain⟨Z,eA⟩:∃Z,Z=List.replicate cs.length (D.v (.int .i64 0)):=⟨_,rfl⟩;obtain⟨dB,eB⟩:∃dB,dB=(List.replicate vs.length [D.v (.int .i64 0),((0:Int):D),((0:Int):D)]).flatten:=⟨_,rfl⟩;obtain⟨dC,eC⟩:∃dC,dC=(List.replicate ps.length [D.W 3 1 [],.W 171 3 [],.W 58 3 []]).flatten:=⟨_,rfl⟩;have G:∀π,D.rens π Z=Z:=λπ=>by rw[eA,DB];simp[D.ren]
  have N:∀π,D.rens π dB=dB:=λπ=>by rw[eB,DB];simp[D.ren]
  have O:∀π,D.rens π dC=dC:=λπ=>by rw[eC,DB];simp[D.ren]
  obtain⟨K,hK⟩:∃K:St->Prop,K=λs=>∃s2,Qy 2 s s2/\(AK s2.e 1= .R 0 0/\AK s2.e 2= .R 1 0/\AK s2.e 3= .R 5 0/\s2.h=[.cells [.v (AM .i64 cs),(vs.map Val.V:D),(ps.map Th.V:D)],.cells zP,.cells Z,.cells dB,.cells dC,.cells [.sr 2 cs.length,.sr 3 vs.length,.sr 4 ps.length]]):=⟨_,rfl⟩;refine Bc _ (K:=K) ?_ ?_
  .rintro s hs;rw[hK]at hs;obtain⟨s2,hr,f1,f2,f3,fh⟩:=hs;refine⟨s2,hr,?_⟩;have a8:Z.length=cs.length:=by rw[eA];simp
   have b0:dB.length=vs.length*3:=by rw[eB];simp
   have a6:BZ 1 (cs.map (V.int .i64))=true:=by cases cs<;>rfl
   have a7:BZ 3 (vs.map Val.V)=true:=by cases vs<;>rfl
   have U:=λR0 R1 RA RB Q=>rD cs vs ps n3 ih R0 R1 RA RB Q;have a2:(List.replicate ps.length zP).flatten=dC:=eC.symm;rw[a2]at U;simp only[ib,AH,AJ,AY,AB 62 2];simp[f1,f2,f3,fh,AM,a8,a6];simp only[AB 62 3];simp[b0,a7];simp only[AB 62 4];simp;simp at U;refine U _ _ _ _ _ ?_;intro e J g2 g3;simp[AB 62 9,g2,g3,AQ,AA,AW 62,zP,D.one?]
  .have b1:(cs.length:Int)<=16777216:=AE;have b2:(vs.length:Int)<=16777216:=AE;have b3:(ps.length:Int)<=16777216:=AE;simp only[AB 62 1];simp[AQ,b1,b2,b3];simp only[<-eA,<-eB,<-eC];subst hK
   and_intros
   .refine BW [(2,2),(3,3),(4,4),(5,5)] rfl rfl ⟨rfl,rfl,rfl,?_⟩;simp[BD,List.range,List.range.loop,Dm,CT,Row.ren,D.rens,D.ren,G,N,O,zP,AM]
   .refine BW [(2,2),(3,3),(4,5),(5,4)] rfl rfl ⟨rfl,rfl,rfl,?_⟩;simp[BD,List.range,List.range.loop,Dm,CT,Row.ren,D.rens,D.ren,G,N,O,zP,AM]
   .refine BW [(2,2),(3,4),(4,3),(5,5)] rfl rfl ⟨rfl,rfl,rfl,?_⟩;simp[BD,List.range,List.range.loop,Dm,CT,Row.ren,D.rens,D.ren,G,N,O,zP,AM]
   .refine BW [(2,2),(3,4),(4,5),(5,3)] rfl rfl ⟨rfl,rfl,rfl,?_⟩;simp[BD,List.range,List.range.loop,Dm,CT,Row.ren,D.rens,D.ren,G,N,O,zP,AM]
   .refine BW [(2,2),(3,5),(4,3),(5,4)] rfl rfl ⟨rfl,rfl,rfl,?_⟩;simp[BD,List.range,List.range.loop,Dm,CT,Row.ren,D.rens,D.ren,G,N,O,zP,AM]
   .refine BW [(2,2),(3,5),(4,4),(5,3)] rfl rfl ⟨rfl,rfl,rfl,?_⟩;simp[BD,List.range,List.range.loop,Dm,CT,Row.ren,D.rens,D.ren,G,N,O,zP,AM]
   .refine BW [(2,3),(3,2),(4,4),(5,5)] rfl rfl ⟨rfl,rfl,rfl,?_⟩;simp[BD,List.range,List.range.loop,Dm,CT,Row.ren,D.rens,D.ren,G,N,O,zP,AM]
   .refine BW [(2,3),(3,2),(4,5),(5,4)] rfl rfl ⟨rfl,rfl,rfl,?_⟩;simp[BD,List.range,List.range.loop,Dm,CT,Row.ren,D.rens,D.ren,G,N,O,zP,AM]
   .refine BW [(2,3),(3,4),(4,2),(5,5)] rfl rfl ⟨rfl,rfl,rfl,?_⟩;simp[BD,List.range,List.range.loop,Dm,CT,Row.ren,D.rens,D.ren,G,N,O,zP,AM]
   .refine BW [(2,3),(3,4),(4,5),(5,2)] rfl rfl ⟨rfl,rfl,rfl,?_⟩;simp[BD,List.range,List.range.loop,Dm,CT,Row.ren,D.rens,D.ren,G,N,O,zP,AM]
   .refine BW [(2,3),(3,5),(4,2),(5,4)] rfl rfl ⟨rfl,rfl,rfl,?_⟩;simp[BD,List.range,List.range.loop,Dm,CT,Row.ren,D.rens,D.ren,G,N,O,zP,AM]
   .refine BW [(2,3),(3,5),(4,4),(5,2)] rfl rfl ⟨rfl,rfl,rfl,?_⟩;simp[BD,List.range,List.range.loop,Dm,CT,Row.ren,D.rens,D.ren,G,N,O,zP,AM]
   .refine BW [(2,4),(3,2),(4,3),(5,5)] rfl rfl ⟨rfl,rfl,rfl,?_⟩;simp[BD,List.range,List.range.loop,Dm,CT,Row.ren,D.rens,D.ren,G,N,O,zP,AM]
   .refine BW [(2,4),(3,2),(4,5),(5,3)] rfl rfl ⟨rfl,rfl,rfl,?_⟩;simp[BD,List.range,List.range.loop,Dm,CT,Row.ren,D.rens,D.ren,G,N,O,zP,AM]
   .refine BW [(2,4),(3,3),(4,2),(5,5)] rfl rfl ⟨rfl,rfl,rfl,?_⟩;simp[BD,List.range,List.range.loop,Dm,CT,Row.ren,D.rens,D.ren,G,N,O,zP,AM]
   .refine BW [(2,4),(3,3),(4,5),(5,2)] rfl rfl ⟨rfl,rfl,rfl,?_⟩;simp[BD,List.range,List.range.loop,Dm,CT,Row.ren,D.rens,D.ren,G,N,O,zP,AM]
   .refine BW [(2,4),(3,5),(4,2),(5,3)] rfl rfl ⟨rfl,rfl,rfl,?_⟩;simp[BD,List.range,List.range.loop,Dm,CT,Row.ren,D.rens,D.ren,G,N,O,zP,AM]
   .refine BW [(2,4),(3,5),(4,3),(5,2)] rfl rfl ⟨rfl,rfl,rfl,?_⟩;simp[BD,List.range,List.range.loop,Dm,CT,Row.ren,D.rens,D.ren,G,N,O,zP,AM]
   .refine BW [(2,5),(3,2),(4,3),(5,4)] rfl rfl ⟨rfl,rfl,rfl,?_⟩;simp[BD,List.range,List.range.loop,Dm,CT,Row.ren,D.rens,D.ren,G,N,O,zP,AM]
   .refine BW [(2,5),(3,2),(4,4),(5,3)] rfl rfl ⟨rfl,rfl,rfl,?_⟩;simp[BD,List.range,List.range.loop,Dm,CT,Row.ren,D.rens,D.ren,G,N,O,zP,AM]
   .refine BW [(2,5),(3,3),(4,2),(5,4)] rfl rfl ⟨rfl,rfl,rfl,?_⟩;simp[BD,List.range,List.range.loop,Dm,CT,Row.ren,D.rens,D.ren,G,N,O,zP,AM]
   .refine BW [(2,5),(3,3),(4,4),(5,2)] rfl rfl ⟨rfl,rfl,rfl,?_⟩;simp[BD,List.range,List.range.loop,Dm,CT,Row.ren,D.rens,D.ren,G,N,O,zP,AM]
   .refine BW [(2,5),(3,4),(4,2),(5,3)] rfl rfl ⟨rfl,rfl,rfl,?_⟩;simp[BD,List.range,List.range.loop,Dm,CT,Row.ren,D.rens,D.ren,G,N,O,zP,AM]
   .refine BW [(2,5),(3,4),(4,3),(5,2)] rfl rfl ⟨rfl,rfl,rfl,?_⟩;simp[BD,List.range,List.range.loop,Dm,CT,Row.ren,D.rens,D.ren,G,N,O,zP,AM]
 have tk:∀(xs:List V)(sz:Nat),(∀x∈xs,x.cells.length=sz)->D.vs? (((xs.flatMap V.cells).map D.v).take (xs.length*sz))=some (xs.flatMap V.cells):=by
  intro xs sz hx;have hl:(xs.flatMap V.cells).length=xs.length*sz:=by
   induction xs with
   |nil=>simp
   |cons x xs ih=>rw[r7,re,ih (λy hy=>hx y (by simp[hy])),hx x Ac,sF,tZ,Nat.add_comm]
  rw[sN (by rw[sD,hl];exact ri _)];exact Le _
 rw[hx]at f0;have s1:∀x∈cs.map (V.int .i64),x.cells.length=1:=by intro x hx;obtain⟨c,_,rfl⟩:=rl.1 hx;rfl
 have s2:∀x∈vs.map Val.V,x.cells.length=3:=by intro x hx;obtain⟨c,_,rfl⟩:=rl.1 hx;rfl
 have s3:∀x∈ps.map Th.V,x.cells.length=3:=by intro x hx;obtain⟨⟨c1,c2,c3⟩,_,rfl⟩:=rl.1 hx;rfl
 have t1:=tk _ 1 s1;have t2:=tk _ 3 s2;have t3:=tk _ 3 s3;rw[sD]at t1 t2 t3;have g1:=f0.frz (i:=0) (xs:=cs.map (V.int .i64)) rfl rfl Ac s1 t1;have g2:=g1.frz (i:=1) (xs:=vs.map Val.V) rfl rfl Ac s2 t2;have g3:=g2.frz (i:=2) (xs:=ps.map Th.V) rfl rfl Ac s3 t3;have g4:=FSp.aggV (xs:=[AM .i64 cs,.list (vs.map Val.V),.list (ps.map Th.V)]) g3;have g5:=FSp.trim (h':=[]) g4 (ri _) Ac (by simp[D.lt]);rw[Th.V_eq]at g5 ⊢;exact Dh (args:=[_]) (rets:=[_]) g5
section
variable {k:Nat}
def C5{α:Type}{l:List α}{x:α}(h:l[k]?=some x)(f:α->V):(l.map f).take (k+1)=(l.map f).take k++[f x]:=by rw[rx,rk,h];rfl
def Ok{α:Type}(l:List α)(f:α->V):(l.map f).take l.length=l.map f:=sN Ac
def iU(a b c:Nat):List GI:=[⟨none,.box 1 (.t 0 false)⟩,
 ⟨none,.alloc 2 [.v (.int .i64 0),.v (.int .i64 0),.v (.int .i64 0),.W 130 5 [],.W a 4 [],.W 3 1 [],.W b 3 [],.W c 4 []]⟩]
def iT(a b c:Nat):List GI:=[⟨none,.p 8 (.faddr (.t 1 false) 0 1)⟩,
 ⟨none,.p 9 (.load (.t 8 false) 1 false)⟩,
 ⟨none,.p 10 (.faddr (.t 1 false) 1 1)⟩,
 ⟨none,.p 11 (.load (.t 10 false) 1 false)⟩,
 ⟨none,.p 12 (.faddr (.t 1 false) 2 1)⟩,
 ⟨none,.p 13 (.load (.t 12 false) 1 false)⟩,
 ⟨none,.p 14 (.faddr (.t 1 false) 3 1)⟩,
 ⟨none,.p 15 (.load (.t 14 false) 1 false)⟩,
 ⟨none,.p 16 (.faddr (.t 1 false) 5 1)⟩,
 ⟨none,.p 17 (.load (.t 16 false) 1 false)⟩,
 ⟨none,.p 18 (.build [.v (.int .i64 0),.v (.int .i64 0),.v (.int .i64 0),.nil 130 5,.nil a 4,.nil 3 1,.nil b 3,.nil c 4] [(0,1,(.t 9 false)),(1,1,(.t 11 false)),(2,1,(.t 13 false)),(3,1,(.t 15 false)),(5,1,(.t 17 false))])⟩,
 ⟨none,.alloc 3 [.v (.int .i64 0),.v (.int .i64 0),.v (.int .i64 0),.W 130 5 [],.W a 4 [],.W 3 1 [],.W b 3 [],.W c 4 []]⟩,
 ⟨none,.store (.t 3 false) (.t 18 false) 8⟩]
def iS:List GI:=[⟨none,.mv 4 (.c (.v (.int .i64 0)))⟩]
def iR:List GI:=[⟨none,.mv 19 (.t 4 false)⟩,
 ⟨none,.p 20 (.faddr (.t 1 false) 4 1)⟩,
 ⟨none,.p 21 (.load (.t 20 false) 1 false)⟩,
 ⟨none,.p 22 (.alen (.t 21 false))⟩,
 ⟨none,.p 23 (.bin .lss (.t 19 false) (.t 22 false))⟩]
def iO(a:Nat):List GI:=[⟨none,.p 26 (.faddr (.t 3 false) 4 1)⟩,
 ⟨none,.take 27 (.t 26 false)⟩,
 ⟨none,.p 28 (.faddr (.t 1 false) 4 1)⟩,
 ⟨none,.p 29 (.load (.t 28 false) 1 false)⟩,
 ⟨none,.mv 30 (.t 4 false)⟩,
 ⟨none,.p 31 (.iaddr (.t 29 false) (.t 30 false) 4)⟩,
 ⟨none,.p 32 (.faddr (.t 31 false) 0 2)⟩,
 ⟨none,.p 33 (.load (.t 32 false) 2 true)⟩,
 ⟨none,.p 34 (.faddr (.t 1 false) 4 1)⟩,
 ⟨none,.p 35 (.load (.t 34 false) 1 false)⟩,
 ⟨none,.mv 36 (.t 4 false)⟩,
 ⟨none,.p 37 (.iaddr (.t 35 false) (.t 36 false) 4)⟩,
 ⟨none,.p 38 (.faddr (.t 37 false) 2 1)⟩,
 ⟨none,.p 39 (.load (.t 38 false) 1 false)⟩,
 ⟨none,.p 40 (.faddr (.t 1 false) 4 1)⟩,
 ⟨none,.p 41 (.load (.t 40 false) 1 false)⟩,
 ⟨none,.mv 42 (.t 4 false)⟩,
 ⟨none,.p 43 (.iaddr (.t 41 false) (.t 42 false) 4)⟩,
 ⟨none,.p 44 (.faddr (.t 43 false) 3 1)⟩,
 ⟨none,.p 45 (.load (.t 44 false) 1 false)⟩,
 ⟨none,.p 46 (.build [.v (.int .i64 0),.v (.int .i64 0),.v (.int .i64 0),.v (.int .i64 0)] [(0,2,(.t 33 false)),(2,1,(.t 39 false)),(3,1,(.t 45 false))])⟩,
 ⟨none,.bsl 47 a 4 [(.t 46 false)]⟩,
 ⟨none,.app 48 (.t 27 true) (.t 47 false) a 4 32⟩,
 ⟨none,.p 49 (.faddr (.t 3 false) 4 1)⟩,
 ⟨none,.store (.t 49 false) (.t 48 true) 1⟩]
def iQ:List GI:=[⟨none,.mv 24 (.t 4 false)⟩,
 ⟨none,.p 25 (.bin .add (.t 24 false) (.c (.v (.int .i64 1))))⟩,
 ⟨none,.mv 4 (.t 25 false)⟩]
def bL(a:Nat):AC:=(.seq (.seq (.reg iR [1,2,3,4,23]) (.cond (.t 23 false) .skip (.exit 0))) (.seq (.block 1 (.regD (iO a) [1,2,3,4] [[],[0],[],[2],[],[2,3,4],[2,3,4,5],[2,3,4,5,6],[],[8],[],[8,9,10],[8,9,10,11],[8,9,10,11,12],[],[14],[],[14,15,16],[14,15,16,17],[14,15,16,17,18],[2,3,4,5,6,7,8,9,10,11,12,13,14,15,16,17,18,19],[2,3,4,5,6,7,8,9,10,11,12,13,14,15,16,17,18,19,20],[0,1,2,3,4,5,6,7,8,9,10,11,12,13,14,15,16,17,18,19,20,21],[0,1,2,3,4,5,6,7,8,9,10,11,12,13,14,15,16,17,18,19,20,21,22],[0,1,2,3,4,5,6,7,8,9,10,11,12,13,14,15,16,17,18,19,20,21,22,23]])) (.reg iQ [1,2,3,4])))
def iM:List GI:=[⟨none,.mv 5 (.c (.v (.int .i64 0)))⟩]
def iL:List GI:=[⟨none,.mv 50 (.t 5 false)⟩,
 ⟨none,.p 51 (.faddr (.t 1 false) 6 1)⟩,
 ⟨none,.p 52 (.load (.t 51 false) 1 false)⟩,
 ⟨none,.p 53 (.alen (.t 52 false))⟩,
 ⟨none,.p 54 (.bin .lss (.t 50 false) (.t 53 false))⟩]
def iJ(b:Nat):List GI:=[⟨none,.p 57 (.faddr (.t 3 false) 6 1)⟩,
 ⟨none,.take 58 (.t 57 false)⟩,
 ⟨none,.p 59 (.faddr (.t 1 false) 6 1)⟩,
 ⟨none,.p 60 (.load (.t 59 false) 1 false)⟩,
 ⟨none,.mv 61 (.t 5 false)⟩,
 ⟨none,.p 62 (.iaddr (.t 60 false) (.t 61 false) 3)⟩,
 ⟨none,.p 63 (.faddr (.t 62 false) 0 1)⟩,
 ⟨none,.p 64 (.load (.t 63 false) 1 false)⟩,
 ⟨none,.p 65 (.faddr (.t 1 false) 6 1)⟩,
 ⟨none,.p 66 (.load (.t 65 false) 1 false)⟩,
 ⟨none,.mv 67 (.t 5 false)⟩,
 ⟨none,.p 68 (.iaddr (.t 66 false) (.t 67 false) 3)⟩,
 ⟨none,.p 69 (.faddr (.t 68 false) 1 2)⟩,
 ⟨none,.p 70 (.load (.t 69 false) 2 true)⟩,
 ⟨none,.p 71 (.build [.v (.int .i64 0),.v (.int .i64 0),.v (.int .i64 0)] [(0,1,(.t 64 false)),(1,2,(.t 70 false))])⟩,
 ⟨none,.bsl 72 b 3 [(.t 71 false)]⟩,
 ⟨none,.app 73 (.t 58 true) (.t 72 false) b 3 24⟩,
 ⟨none,.p 74 (.faddr (.t 3 false) 6 1)⟩,
 ⟨none,.store (.t 74 false) (.t 73 true) 1⟩]
def iK:List GI:=[⟨none,.mv 55 (.t 5 false)⟩,
 ⟨none,.p 56 (.bin .add (.t 55 false) (.c (.v (.int .i64 1))))⟩,
 ⟨none,.mv 5 (.t 56 false)⟩]
def bK(b:Nat):AC:=(.seq (.seq (.reg iL [1,2,3,5,54]) (.cond (.t 54 false) .skip (.exit 2))) (.seq (.block 3 (.regD (iJ b) [1,2,3,5] [[],[0],[],[2],[],[2,3,4],[2,3,4,5],[2,3,4,5,6],[],[8],[],[8,9,10],[8,9,10,11],[8,9,10,11,12],[2,3,4,5,6,7,8,9,10,11,12,13],[2,3,4,5,6,7,8,9,10,11,12,13,14],[0,1,2,3,4,5,6,7,8,9,10,11,12,13,14,15],[0,1,2,3,4,5,6,7,8,9,10,11,12,13,14,15,16],[0,1,2,3,4,5,6,7,8,9,10,11,12,13,14,15,16,17]])) (.reg iK [1,2,3,5])))
def ZE:List GI:=[⟨none,.mv 6 (.c (.v (.int .i64 0)))⟩]
def ZD:List GI:=[⟨none,.mv 75 (.t 6 false)⟩,
 ⟨none,.p 76 (.faddr (.t 1 false) 7 1)⟩,
 ⟨none,.p 77 (.load (.t 76 false) 1 false)⟩,
 ⟨none,.p 78 (.alen (.t 77 false))⟩,
 ⟨none,.p 79 (.bin .lss (.t 75 false) (.t 78 false))⟩]
def ZB:List GI:=[⟨none,.p 82 (.faddr (.t 1 false) 7 1)⟩,
 ⟨none,.p 83 (.load (.t 82 false) 1 false)⟩,
 ⟨none,.mv 84 (.t 6 false)⟩,
 ⟨none,.p 85 (.iaddr (.t 83 false) (.t 84 false) 4)⟩,
 ⟨none,.p 86 (.load (.t 85 false) 4 true)⟩,
 ⟨none,.alloc 7 [.v (.int .i64 0),.v (.int .i64 0),.v (.int .i64 0),.v (.int .i64 0)]⟩,
 ⟨none,.store (.t 7 false) (.t 86 false) 4⟩]
def ZA(c:Nat):List GI:=[⟨none,.p 87 (.faddr (.t 3 false) 7 1)⟩,
 ⟨none,.take 88 (.t 87 false)⟩,
 ⟨none,.p 89 (.faddr (.t 7 false) 0 1)⟩,
 ⟨none,.p 90 (.load (.t 89 false) 1 false)⟩,
 ⟨none,.p 91 (.faddr (.t 7 false) 1 1)⟩,
 ⟨none,.p 92 (.load (.t 91 false) 1 false)⟩,
 ⟨none,.p 93 (.faddr (.t 7 false) 2 1)⟩,
 ⟨none,.p 94 (.load (.t 93 false) 1 false)⟩,
 ⟨none,.p 95 (.faddr (.t 7 false) 3 1)⟩,
 ⟨none,.p 96 (.load (.t 95 false) 1 false)⟩,
 ⟨none,.p 97 (.build [.v (.int .i64 0),.v (.int .i64 0),.v (.int .i64 0),.v (.int .i64 0)] [(0,1,(.t 90 false)),(1,1,(.t 92 false)),(2,1,(.t 94 false)),(3,1,(.t 96 false))])⟩,
 ⟨none,.bsl 98 c 4 [(.t 97 false)]⟩,
 ⟨none,.app 99 (.t 88 true) (.t 98 false) c 4 32⟩,
 ⟨none,.p 100 (.faddr (.t 3 false) 7 1)⟩,
 ⟨none,.store (.t 100 false) (.t 99 true) 1⟩]
def ZC:List GI:=[⟨none,.mv 80 (.t 6 false)⟩,
 ⟨none,.p 81 (.bin .add (.t 80 false) (.c (.v (.int .i64 1))))⟩,
 ⟨none,.mv 6 (.t 81 false)⟩]
def bJ(c:Nat):AC:=(.seq (.seq (.reg ZD [1,2,3,6,79]) (.cond (.t 79 false) .skip (.exit 4))) (.seq (.block 5 (.seq (.reg ZB [1,2,3,6,7]) (.reg (ZA c) [1,2,3,6]))) (.reg ZC [1,2,3,6])))
def Y9:List GI:=[⟨none,.p 101 (.load (.t 3 false) 8 true)⟩,
 ⟨none,.store (.t 2 false) (.t 101 false) 8⟩]
def cM(a b c:Nat):AC:=(.seq (.reg (iU a b c) [1,2]) (.seq (.reg (iT a b c) [1,2,3]) (.seq (.seq (.reg iS [1,2,3,4]) (.block 0 (.loop (bL a)))) (.seq (.seq (.reg iM [1,2,3,5]) (.block 2 (.loop (bK b)))) (.seq (.seq (.reg ZE [1,2,3,6]) (.block 4 (.loop (bJ c)))) (.seq (.reg Y9 [2]) .ret))))))
def jI:List AR:=[.c 2 8 true]
variable {n:Nat}
section
variable {a b c:Nat}
def TR(a b c:Nat)(r:Rgt)(ds:List Dat)(os:List Own)(ls:List Lic):Row:=
 .cells [.v (.int .i64 r.file),.v (.int .i64 r.state),.v (.int .i64 r.force),.v (.list (r.claims.map Clm.V)),.W a 4 (ds.map Dat.V),.v (AM .i64 r.bad),.W b 3 (os.map Own.V),.W c 4 (ls.map Lic.V)]
theorem fN(r:Rgt)(hn:r.dates.length<=2^30)(O:Row)(os:List Own)(U:List Lic):
  AX (.loop (bL a)) (λe s=>e= .exit 0/\AK s.e 1= .R 0 0/\AK s.e 2= .R 1 0/\AK s.e 3= .R 2 0/\s.h=[r.row,O,TR a b c r r.dates os U])
   ⟨[(1,.R 0 0),(2,.R 1 0),(3,.R 2 0),(4,((0:Int):D))],[r.row,O,TR a b c r [] os U]⟩:=by
 refine Ab r.dates.length (λk=>⟨[(1,.R 0 0),(2,.R 1 0),(3,.R 2 0),(4,(k:D))],[r.row,O,TR a b c r (r.dates.take k) os U]⟩) Ac ?_;intro k hk;simp only[Zw,bL,iR];simp[Rgt.row];by_cases N:k <r.dates.length
 .obtain⟨x,J⟩:∃x,r.dates[k]?=some x:=⟨_,rW N⟩;have a1:r.dates[k]=x:=(rZ.1 J).2;have Z:=Bt k;have G:AV (k+1) 32=true:=by simp[AV];omega
  have ht:(r.dates.take k).length=k:=by simp;omega
  have W:min k r.dates.length=k:=AE;have e:=C5 J Dat.V;rw[CF,AD];simp only[Aa,iO];simp[J,Dat.V,TR,AQ,W,G];simp[iQ,Z,N,e,Dat.V]
 .have:k=r.dates.length:=AE;subst this;rw[Bj,AN];simp
theorem fM(r:Rgt)(hn:r.owners.length<=2^30)(O:Row)(ds:List Dat)(U:List Lic):
  AX (.loop (bK b)) (λe s=>e= .exit 2/\AK s.e 1= .R 0 0/\AK s.e 2= .R 1 0/\AK s.e 3= .R 2 0/\s.h=[r.row,O,TR a b c r ds r.owners U])
   ⟨[(1,.R 0 0),(2,.R 1 0),(3,.R 2 0),(5,((0:Int):D))],[r.row,O,TR a b c r ds [] U]⟩:=by
 refine Ab r.owners.length (λk=>⟨[(1,.R 0 0),(2,.R 1 0),(3,.R 2 0),(5,(k:D))],[r.row,O,TR a b c r ds (r.owners.take k) U]⟩) Ac ?_;intro k hk;simp only[Zw,bK,iL];simp[Rgt.row];by_cases N:k <r.owners.length
 .obtain⟨x,J⟩:∃x,r.owners[k]?=some x:=⟨_,rW N⟩;have a1:r.owners[k]=x:=(rZ.1 J).2;have Z:=Bt k;have G:AV (k+1) 24=true:=by simp[AV];omega
  have ht:(r.owners.take k).length=k:=by simp;omega
  have W:min k r.owners.length=k:=AE;have e:=C5 J Own.V;rw[CF,AD];simp only[Aa,iJ];simp[J,Own.V,TR,AQ,W,G];simp[iK,Z,N,e,Own.V]
 .have:k=r.owners.length:=AE;subst this;rw[Bj,AN];simp
theorem fL(r:Rgt)(hn:r.lics.length<=2^30)(U:Row)(ds:List Dat)(os:List Own):
  AX (.loop (bJ c)) (λe s=>e= .exit 4/\AK s.e 1= .R 0 0/\AK s.e 2= .R 1 0/\AK s.e 3= .R 2 0/\∃J,s.h=r.row::U::TR a b c r ds os r.lics::J)
   ⟨[(1,.R 0 0),(2,.R 1 0),(3,.R 2 0),(6,((0:Int):D))],[r.row,U,TR a b c r ds os []]⟩:=by
 refine Ag r.lics.length (λk s=>s.e=[(1,.R 0 0),(2,.R 1 0),(3,.R 2 0),(6,(k:D))]/\∃J,s.h=r.row::U::TR a b c r ds os (r.lics.take k)::J) ⟨Ac,[],Ac⟩ ?_;rintro k ⟨se,sh⟩ hk ⟨W,J2,Z⟩;simp only at W Z;subst W Z;simp only[Zw,bJ,ZD];simp[Rgt.row];by_cases O:k <r.lics.length
 .obtain⟨x,N⟩:∃x,r.lics[k]?=some x:=⟨_,rW O⟩;have a1:r.lics[k]=x:=(rZ.1 N).2;have hw:=Bt k;have G:AV (k+1) 32=true:=by simp[AV];omega
  have ht:(r.lics.take k).length=k:=by simp;omega
  have hm:min k r.lics.length=k:=AE;have e:=C5 N Lic.V;rw[CF,AD];simp only[ZB];simp[N,Lic.V,TR,AQ];simp only[ZA];simp[AQ,hm,G];simp[ZC,hw,O,e,Lic.V]
 .have:k=r.lics.length:=AE;subst this;rw[Bj,AN];simp
def pM(hk:DD Tryz.prog BK n 1 (cM a b c) jI=true)(r:Rgt)(Z:r.ok):PX n [r.V] [r.V]:=by refine I4 hk rfl ?_;simp only[cM,AH,AJ,AY,iU,iT,Ad];simp[Rgt.V,Rgt.cs,AQ,iS];have q0:=λW=>fN (a:=a) (b:=b) (c:=c) r Z.ld W [] [];have q1:=λW=>fM (a:=a) (b:=b) (c:=c) r Z.lo W r.dates [];have q2:=λW=>fL (a:=a) (b:=b) (c:=c) r Z.ll W r.dates r.owners;simp only[TR,Rgt.row,sq]at q0 q1 q2;refine Ap _ ?_ (q0 _);rintro e ⟨se,sh⟩ ⟨rfl,U,G,N,O⟩;simp only at U G N O;subst O;simp[iM,U,G,N];refine Ap _ ?_ (q1 _);rintro e ⟨se,sh⟩ ⟨rfl,U,G,N,O⟩;simp only at U G N O;subst O;simp[ZE,U,G,N];refine Ap _ ?_ (q2 _);rintro e ⟨se,sh⟩ ⟨rfl,U,G,N,J,O⟩;simp only at U G N O;subst O;simp[Y9,G,N,AA,jI,D.vs?,D.v?,AQ,AM]
end
def rK:DD Tryz.prog BK 53 1 (cM 88 246 247) jI=true:=HR
def qg(r:Rgt)(G:r.ok):PX 53 [r.V] [r.V]:=pM rK r G
theorem px(l:List Rgt)(U:∀r∈l,r.ok)(hn:l.length<=2^30):PX 14 [(l.map Rgt.V:V)] [(l.map Rgt.V:V)]:=by
 refine BS 14 ?_;simp only[As 14,AH,AJ,AY,AB 14 0,AB 14 1,AB 14 2,Ad];simp;refine Ab l.length (λk=>⟨[(0,(l.map Rgt.V:D)),(3,.W 74 8 ((l.take k).map Rgt.V)),(4,(k:D))],[]⟩) Ac ?_;intro k hk;simp only[Zw,BG 14 0,AB 14 3];simp;by_cases N:k <l.length
 .obtain⟨x,G⟩:∃x,l[k]?=some x:=⟨_,rW N⟩;have a1:l[k]=x:=(rZ.1 G).2;have Z:=Bt k;have J:AV (k+1) 144=true:=by simp[AV];omega
  have W:min k l.length=k:=AE;have e:=C5 G Rgt.V;have O:=(qg x (U x (rY G))).fsp;rw[CF,AD];simp only[AB 14 5];simp[Rgt.V,Rgt.cs]at O;simp[G,Rgt.V,Rgt.cs];refine⟨_,_,O _,?_⟩;simp[W,J,AB 14 4,Z,N,e,Rgt.V,Rgt.cs]
 .have:k=l.length:=AE;subst this;rw[Bj,AN];simp[AB 14 6,AA,AW 14,Ok]
end
def RI(l:List Int)(hi:∀n∈l,i64 n)(hn:l.length<=2^30)(h:List Row)(w:Nat)(xs:List Int)(U:h[w]?=some (wr xs))(hb:xs.length<=2^44):
  FX 129 [.v (AM .i64 l),.R w 0] h [] (h.set w (wr (xs++l.flatMap Aj))):=by
 refine EH 129 ?_;obtain⟨O,G⟩:∃O,h.set w (wr (xs++l.flatMap Aj))=O:=⟨_,rfl⟩;rw[G];simp only[As 129,AH,AJ,AY,AB 129 0,AZ];simp[AM];refine Ab l.length (λk=>⟨[(1,.R w 0),(5,.v (AM .i64 l)),(6,(l.length:D)),(7,(k:D))],h.set w (wr (xs++(l.take k).flatMap Aj))⟩) ?_ ?_
 .have:h.set w (wr xs)=h:=by obtain⟨Z,W⟩:=rZ.1 U;rw[<-W,vM]
  simp[AM,this]
 intro k hk;simp only[Zw,BG 129 0,AB 129 1];simp[AM];by_cases J:k <l.length
 .have hx:l[k]?=some l[k]:=rW J;have N:=Bt k;have hf:=CQ (l.take k);have ht:(l.take k).length=k:=by simp;omega
  rw[CF,AD];simp only[AB 129 2,AB 129 3];simp[hx];refine⟨_,_,(Zl l[k] (hi _ (sy J)) (h.set w (wr (xs++(l.take k).flatMap Aj))) w _ (CY U) (by rw[re];omega)),?_⟩;simp[AB 129 4,N,J];rw[Bk J]
 .have:k=l.length:=AE;subst this;rw[Bj,AN];simp[AW 129,G]
def RJ(r:Rgt)(Z:r.ok):PX 128 [r.V] [.bool (Ao r)]:=by
 refine BS 128 ?_;obtain⟨R,O⟩:∃R,Ao r=R:=⟨_,rfl⟩;rw[O];unfold Ao at O;have a8:=Z.lc;have hld:=Z.ld;have b0:=Z.ll;have p1:=(LX r.file 0 4095).fsp;have p2:=(LX r.state 0 4).fsp;have p3:=(LX r.force 0 4).fsp;have p4:=(Zv r.claims Z.claims AE).fsp;have p5:=λ(h:List Row)(q:Nat)(hq:h[q]?=some (.cells [r.claims.length]))(hl:Low h)=>
  mR r.dates (HZ r.claims.length) (.func 218 [.R q 0]) 218 [.R q 0] (FV.r 218 q 0 []) rfl rfl h hl (by simp[D.lt,D.lts];exact Cs hq) AE λx _ H h1 h2=>mQ x r.claims.length H q (h2 q _ hq) ⟨AE,AE⟩ h1
 have p6:=(mP r.dates AE).fsp;have p7:=λ(h:List Row)(q:Nat)(hq:h[q]?=some (.cells [r.claims.length]))(hl:Low h)=>
  mM r.bad (λi=>ED i 0 (r.claims.length-1)) (.func 222 [.R q 0]) 222 [.R q 0] (FV.r 222 q 0 []) rfl rfl h hl (by simp[D.lt,D.lts];exact Cs hq) (by have:=Z.lb;omega) λx _ H h1 h2=>mL x r.claims.length H q (h2 q _ hq) ⟨AE,AE⟩
 have p8:=(mK r.bad (by have:=Z.lb;omega)).fsp;have p9:=λ(h:List Row)(hl:Low h)=>mH r.owners Fn (.v (.func 226 [])) 226 [] (FV.v 226 []) rfl rfl h hl rfl (by have:=Z.lo;omega) λx hx H h1 h2=>(mG x (Z.owners x hx)).fsp H;have jD:=(mF r.owners (by have:=Z.lo;omega)).fsp;have LZ:=λ(h:List Row)(hl:Low h)=>mD r.lics HW (.v (.func 231 [])) 231 [] (FV.v 231 []) rfl rfl h hl rfl AE λx hx H h1 h2=>(mC x).fsp H;have aJ:∀a b c d e f g i n:V,Low [.cells [.v a,.v b,.v c,.v d,.v e,.v f,.v g,.v i],.cells [.v n]]:=by intro a b c d e f g i n row a1;simp at a1;rcases a1 with rfl|rfl<;>rfl
 simp at p1 p2 p3 p4 p5 p6 p7 p8 p9 jD LZ;simp only[As 128,AH,AJ,AO,AB 128 0,AB 128 1,Ad];simp[Rgt.V,Rgt.cs,AQ];generalize ED r.file 0 4095=A1 at*;generalize ED r.state 0 4=A2 at*;generalize ED r.force 0 4=A3 at*;generalize CB r.claims=A4 at*;generalize r.dates.all (HZ r.claims.length)=B1 at*;generalize Cp Ha r.dates=B2 at*;generalize (r.bad.all λi=>ED i 0 (r.claims.length-1))=B3 at*;generalize Cp (λa b=>decide (a <b)) r.bad=B4 at*;generalize r.owners.all Fn=B5 at*;generalize Cp (λa b=>decide (a.party <b.party)) r.owners=B6 at*;generalize r.lics.all HW=B7 at*;simp only[AB 128 2];simp;refine⟨_,_,p1 _,?_⟩;cases A1 with
 |false=>simp at O;simp[AA,AB 128 3,AW 128,O]
 |true=>
 simp;refine⟨_,_,p2 _,?_⟩;cases A2 with
 |false=>simp at O;simp[AA,AB 128 3,AW 128,O]
 |true=>
 simp;refine⟨_,_,p3 _,?_⟩;cases A3 with
 |false=>simp at O;simp[AA,AB 128 3,AW 128,O]
 |true=>
 simp;refine⟨_,_,p4 _,?_⟩;by_cases h4:A4=0
 case neg=>
  have hf:R=false:=by rw[<-O];simp[h4]
  simp[h4,AA,AB 128 3,AW 128,hf]
 subst h4;by_cases h5:4096 <r.dates.length
 .have W:4096 <(r.dates.length:Int):=AE;have hf:R=false:=by rw[<-O];simp;omega
  simp[W,AA,AB 128 3,AW 128,hf]
 have W:¬4096 <(r.dates.length:Int):=AE;by_cases h6:4096 <r.lics.length
 .have a2:4096 <(r.lics.length:Int):=AE;have hf:R=false:=by rw[<-O];simp;omega
  simp[W,a2,AA,AB 128 3,AW 128,hf]
 have a2:¬4096 <(r.lics.length:Int):=AE;have e5:r.dates.length<=4096:=AE;have e6:r.lics.length<=4096:=AE;have a6:(B1&&B2&&(B3&&B4)&&(B5&&B6)&&B7)=R:=by rw[<-O];simp[e5,e6]
 clear O;simp[W,a2,AD];generalize hrows:[Row.cells [D.v (V.int IntKind.i64 r.file),D.v (V.int IntKind.i64 r.state),D.v (V.int IntKind.i64 r.force),D.v (V.list (List.map Clm.V r.claims)),D.v (V.list (List.map Dat.V r.dates)),D.v (AM IntKind.i64 r.bad),D.v (V.list (List.map Own.V r.owners)),D.v (V.list (List.map Lic.V r.lics))],
  Row.cells [D.v (V.int IntKind.i64 ↑r.claims.length)]]=H
 have J:Low H:=by rw[<-hrows];exact aJ _ _ _ _ _ _ _ _ _
 have h0:H[0]?=some (Row.cells [D.v (V.int IntKind.i64 r.file),D.v (V.int IntKind.i64 r.state),D.v (V.int IntKind.i64 r.force),D.v (V.list (List.map Clm.V r.claims)),D.v (V.list (List.map Dat.V r.dates)),D.v (AM IntKind.i64 r.bad),D.v (V.list (List.map Own.V r.owners)),D.v (V.list (List.map Lic.V r.lics))]):=by rw[<-hrows];rfl
 have h1:H[1]?=some (Row.cells [D.v (V.int IntKind.i64 ↑r.claims.length)]):=by rw[<-hrows];rfl
 have s4:∀(K:St->Prop)(e:CC),AK e 1= .R 0 0->AK e 3= .R 1 0->(∀G,AK G 1= .R 0 0->AK G 3= .R 1 0->AK G 4= .v (.bool (B1&&B2))->K ⟨G,H⟩)->Bd Tryz.prog BK (oG 128 4) K ⟨e,H⟩:=by
  intro K e N f3 U;simp only[AB 128 4];simp[D.vs?,D.v?,N,f3,h0];refine⟨_,_,(p5 _ 1 h1 J),?_⟩;cases B1 with
  |false=>simp;exact U _ N f3 rfl
  |true=>
   simp[h0,AM];refine⟨_,_,(p6 _),?_⟩;cases B2<;>(simp;exact U _ N f3 rfl)
 have s5:∀(K:St->Prop)(e:CC),AK e 1= .R 0 0->AK e 3= .R 1 0->(∀G,AK G 1= .R 0 0->AK G 4=AK e 4->AK G 5= .v (.bool (B3&&B4))->K ⟨G,H⟩)->Bd Tryz.prog BK (oG 128 5) K ⟨e,H⟩:=by
  intro K e N f3 U;simp only[AB 128 5];simp[D.vs?,D.v?,N,f3,h0,AM];refine⟨_,_,(p7 _ 1 h1 J),?_⟩;cases B3 with
  |false=>simp;exact U _ N rfl rfl
  |true=>
   simp[h0,AM];refine⟨_,_,(p8 _),?_⟩;cases B4<;>(simp;exact U _ N rfl rfl)
 have s6:∀(K:St->Prop)(e:CC),AK e 1= .R 0 0->(∀G,AK G 1= .R 0 0->AK G 4=AK e 4->AK G 5=AK e 5->AK G 6= .v (.bool (B5&&B6))->K ⟨G,H⟩)->Bd Tryz.prog BK (oG 128 6) K ⟨e,H⟩:=by
  intro K e N U;simp only[AB 128 6];simp[N,h0];refine⟨_,_,(p9 _ J),?_⟩;cases B5 with
  |false=>simp;exact U _ N rfl rfl rfl
  |true=>
   simp[h0,AM];refine⟨_,_,(jD _),?_⟩;cases B6<;>(simp;exact U _ N rfl rfl rfl)
 have s7:∀(K:St->Prop)(e:CC),AK e 1= .R 0 0->(∀G,AK G 4=AK e 4->AK G 5=AK e 5->AK G 6=AK e 6->AK G 7=(B7:D)->K ⟨G,H⟩)->Bd Tryz.prog BK (oG 128 7) K ⟨e,H⟩:=by intro K e N U;simp only[AB 128 7];simp[N,h0];refine⟨_,_,(LZ _ J),?_⟩;simp;exact U _ rfl rfl rfl rfl
 refine s4 _ _ rfl rfl ?_;intro e4 g1 g3 g4;refine s5 _ _ (by simp[g1]) (by simp[g3]) ?_;intro e5 k1 k4 k5;refine s6 _ _ (by simp[k1]) ?_;intro a7 m1 m4 m5 m6;refine s7 _ _ (by simp[m1]) ?_;intro e7 n4 n5 n6 n7;simp at k4 m4 m5 n4 n5 n6;generalize (B1&&B2)=C1 at*;generalize (B3&&B4)=C2 at*;generalize (B5&&B6)=C3 at*;subst a6;simp only[AB 128 8];simp[n4,n5,n6,n7,m4,m5,m6,k4,k5,g4];cases C1<;>cases C2<;>cases C3<;>simp[AA,AW 128]
def Qk(d:Dat):[d.cl,d.ix,d.day,d.file].flatMap Aj=Bn d:=by simp[Bn]
def Qi(d:Own):[d.party,d.num,d.den].flatMap Aj=Bl d:=by simp[Bl]
def Qj(d:Lic):[d.fr,d.to,d.fst,d.lst].flatMap Aj=Bm d:=by simp[Bm]
def DL{α:Type}{f:α->List Int}(G:∀x,(f x).length<=40):∀l:List α,(l.flatMap f).length<=40*l.length
 |[]=>Ac
 |x::l=>by have:=G x;have:=DL G l;simp only[r7,re,sF];omega
def Es(d:Dat):(Bn d).length<=40:=by have:=Al d.cl;have:=Al d.ix;have:=Al d.day;have:=Al d.file;simp only[Bn,re];omega
def Ep(d:Own):(Bl d).length<=40:=by have:=Al d.party;have:=Al d.num;have:=Al d.den;simp only[Bl,re];omega
def Er(d:Lic):(Bm d).length<=40:=by have:=Al d.fr;have:=Al d.to;have:=Al d.fst;have:=Al d.lst;simp only[Bm,re];omega
def fR(C:Row)(ds:List Dat)(G:∀d∈ds,d.ok)(U:ds.length<=2^30)(X:List Int)(hX:X.length<=2^43)(J:List Row):
  AX (.loop (lG 51 0)) (λe s=>e= .exit 0/\AK s.e 1= .R 0 0/\AK s.e 4= .R 1 0/\AK s.e 5= .func 129 [.R 1 0]/\∃O,s.h=C::wr (X++ds.flatMap Bn)::O)
   ⟨[(1,.R 0 0),(4,.R 1 0),(5,.func 129 [.R 1 0]),(42,(ds.map Dat.V:D)),(43,(ds.length:D)),(44,((0:Int):D))],C::wr X::J⟩:=by
 refine Ag ds.length (λk s=>s.e=[(1,.R 0 0),(4,.R 1 0),(5,.func 129 [.R 1 0]),(42,(ds.map Dat.V:D)),(43,(ds.length:D)),(44,(k:D))]/\∃O,s.h=C::wr (X++(ds.take k).flatMap Bn)::O) ⟨rfl,J,Ac⟩ ?_;rintro k ⟨se,sh⟩ hk ⟨he,O,hh⟩;simp only at he hh;subst he hh;simp only[Zw,BG 51 0,AB 51 10];simp;by_cases N:k <ds.length
 .obtain⟨x,hx⟩:∃x,ds[k]?=some x:=⟨_,rW N⟩;have Z:ds[k]=x:=(rZ.1 hx).2;have hw:=Bt k;have a1:=DL Es (ds.take k);have ht:(ds.take k).length=k:=by simp;omega
  have e:(ds.take (k+1)).flatMap Bn=(ds.take k).flatMap Bn++Bn x:=by rw[Bk N,Z]
  have W:=λh hr=>RI [x.cl,x.ix,x.day,x.file] (by
    intro n U;simp at U;rcases U with rfl|rfl|rfl|rfl
    .exact(G x (rY hx)).1
    .exact(G x (rY hx)).2.1
    .exact(G x (rY hx)).2.2.1
    .exact(G x (rY hx)).2.2.2) Ac h 1 (X++(ds.take k).flatMap Bn) hr (by rw[re];omega)
  rw[Qk]at W;simp[AM]at W;rw[CF,AD];simp only[AB 51 11,AB 51 12];simp[hx,Dat.V,AQ,D.vs?,D.v?];refine⟨_,_,(W _ rfl),?_⟩;simp[AB 51 13,hw,N,e]
 .have:k=ds.length:=AE;subst this;rw[Bj,AN];simp
def fQ(C:Row)(ds:List Own)(G:∀d∈ds,d.ok)(U:ds.length<=2^30)(X:List Int)(hX:X.length<=2^43)(J:List Row):
  AX (.loop (lG 51 1)) (λe s=>e= .exit 2/\AK s.e 1= .R 0 0/\AK s.e 4= .R 1 0/\AK s.e 5= .func 129 [.R 1 0]/\∃O,s.h=C::wr (X++ds.flatMap Bl)::O)
   ⟨[(1,.R 0 0),(4,.R 1 0),(5,.func 129 [.R 1 0]),(72,(ds.map Own.V:D)),(73,(ds.length:D)),(74,((0:Int):D))],C::wr X::J⟩:=by
 refine Ag ds.length (λk s=>s.e=[(1,.R 0 0),(4,.R 1 0),(5,.func 129 [.R 1 0]),(72,(ds.map Own.V:D)),(73,(ds.length:D)),(74,(k:D))]/\∃O,s.h=C::wr (X++(ds.take k).flatMap Bl)::O) ⟨rfl,J,Ac⟩ ?_;rintro k ⟨se,sh⟩ hk ⟨he,O,hh⟩;simp only at he hh;subst he hh;simp only[Zw,BG 51 1,AB 51 17];simp;by_cases N:k <ds.length
 .obtain⟨x,hx⟩:∃x,ds[k]?=some x:=⟨_,rW N⟩;have Z:ds[k]=x:=(rZ.1 hx).2;have hw:=Bt k;have a1:=DL Ep (ds.take k);have ht:(ds.take k).length=k:=by simp;omega
  have e:(ds.take (k+1)).flatMap Bl=(ds.take k).flatMap Bl++Bl x:=by rw[Bk N,Z]
  have W:=λh hr=>RI [x.party,x.num,x.den] (by
    intro n U;simp at U;rcases U with rfl|rfl|rfl
    .exact(G x (rY hx)).1
    .exact(G x (rY hx)).2.1
    .exact(G x (rY hx)).2.2) Ac h 1 (X++(ds.take k).flatMap Bl) hr (by rw[re];omega)
  rw[Qi]at W;simp[AM]at W;rw[CF,AD];simp only[AB 51 18,AB 51 19];simp[hx,Own.V,AQ,D.vs?,D.v?];refine⟨_,_,(W _ rfl),?_⟩;simp[AB 51 20,hw,N,e]
 .have:k=ds.length:=AE;subst this;rw[Bj,AN];simp
def fP(C:Row)(ds:List Lic)(G:∀d∈ds,d.ok)(U:ds.length<=2^30)(X:List Int)(hX:X.length<=2^43)(J:List Row):
  AX (.loop (lG 51 2)) (λe s=>e= .exit 4/\AK s.e 4= .R 1 0/\AK s.e 5= .func 129 [.R 1 0]/\∃O,s.h=C::wr (X++ds.flatMap Bm)::O)
   ⟨[(4,.R 1 0),(5,.func 129 [.R 1 0]),(97,(ds.map Lic.V:D)),(98,(ds.length:D)),(99,((0:Int):D))],C::wr X::J⟩:=by
 refine Ag ds.length (λk s=>s.e=[(4,.R 1 0),(5,.func 129 [.R 1 0]),(97,(ds.map Lic.V:D)),(98,(ds.length:D)),(99,(k:D))]/\∃O,s.h=C::wr (X++(ds.take k).flatMap Bm)::O) ⟨rfl,J,Ac⟩ ?_;rintro k ⟨se,sh⟩ hk ⟨he,O,hh⟩;simp only at he hh;subst he hh;simp only[Zw,BG 51 2,AB 51 23];simp;by_cases N:k <ds.length
 .obtain⟨x,hx⟩:∃x,ds[k]?=some x:=⟨_,rW N⟩;have Z:ds[k]=x:=(rZ.1 hx).2;have hw:=Bt k;have a1:=DL Er (ds.take k);have ht:(ds.take k).length=k:=by simp;omega
  have e:(ds.take (k+1)).flatMap Bm=(ds.take k).flatMap Bm++Bm x:=by rw[Bk N,Z]
  have W:=λh hr=>RI [x.fr,x.to,x.fst,x.lst] (by
    intro n U;simp at U;rcases U with rfl|rfl|rfl|rfl
    .exact(G x (rY hx)).1
    .exact(G x (rY hx)).2.1
    .exact(G x (rY hx)).2.2.1
    .exact(G x (rY hx)).2.2.2) Ac h 1 (X++(ds.take k).flatMap Bm) hr (by rw[re];omega)
  rw[Qj]at W;simp[AM]at W;rw[CF,AD];simp only[AB 51 24,AB 51 25];simp[hx,Lic.V,AQ,D.vs?,D.v?];refine⟨_,_,(W _ rfl),?_⟩;simp[AB 51 26,hw,N,e]
 .have:k=ds.length:=AE;subst this;rw[Bj,AN];simp
def ju(r:Rgt)(G:r.ok):PX 51 [r.V] [AM .u8 (if Ao r then A7 r else []),((if Ao r then 0 else 1:Int):V)]:=by
 refine BS 51 ?_;have p1:=(RJ r G).fsp;have c1:=G.lb;have hld:=G.ld;have b6:=G.lo;have b5:=G.ll;have b2:=G.enc;have b4:Ao r=true->CB r.claims=0:=by intro h;unfold Ao at h;simp at h;exact h.1.1.1.1.1.1.2
 have p2:=(eU r.claims G.claims (by have:=G.lc;omega) b2).fsp;cases hf:Ao r with
 |false=>
  rw[hf]at p1;simp only[As 51,AH,AJ,AO,AB 51 0,AB 51 1,Ad];simp[Rgt.V,Rgt.cs]at p1 ⊢;refine⟨_,_,p1 _,?_⟩;simp[AA,AB 51 2,AW 51,AM]
 |true=>
  rw[hf]at p1;rw[b4 hf]at p2;simp at p2;have c0:A7 r=A7 r:=rfl;obtain⟨R,hR⟩:∃R,A7 r=R:=⟨_,rfl⟩;rw[hR];have hB:=isB.encClms G.claims (by have:=G.lc;omega) AE;have b9:(BR (BM r.claims)).length<=2^40:=by have:=Cu (BM r.claims).length;simp only[BR,re];omega
  have q1:=λh O=>RI [r.file,r.state,r.force] (by intro n N;simp at N;rcases N with rfl|rfl|rfl;exact G.file;exact G.state;exact G.force) Ac h 1 [] O Ac
  simp only[uU]at q1;have i1:=Al r.file;have i2:=Al r.state;have i3:=Al r.force;obtain⟨X1,W⟩:∃X1,[r.file,r.state,r.force].flatMap Aj=X1:=⟨_,rfl⟩;have l1:X1.length<=30:=by rw[<-W];simp;omega
  rw[W]at q1;have q2:=λh O=>pe (BM r.claims) hB AE h 1 X1 O AE;obtain⟨X2,Z⟩:∃X2,X1++BR (BM r.claims)=X2:=⟨_,rfl⟩;have l2:X2.length<=2^41:=by rw[<-Z,re];omega
  rw[Z]at q2;have q3:=λh O=>RI [(r.dates.length:Int)] (by intro n N;simp at N;subst N;unfold i64;omega) Ac h 1 X2 O AE;obtain⟨X3,a1⟩:∃X3,X2++[(r.dates.length:Int)].flatMap Aj=X3:=⟨_,rfl⟩;have i4:=Al r.dates.length;have l3:X3.length<=2^41+10:=by rw[<-a1];simp;omega
  rw[a1]at q3;have q4:=λC J=>fR C r.dates G.dates hld X3 AE J;have i5:=DL Es r.dates;obtain⟨X4,a2⟩:∃X4,X3++r.dates.flatMap Bn=X4:=⟨_,rfl⟩;have l4:X4.length<=2^41+2^37:=by rw[<-a2,re];omega
  rw[a2]at q4;have q5:=λh O=>Z6 r.bad G.bad AE h 1 X4 O AE;have i6:=CQ r.bad;have i7:=Cu r.bad.length;obtain⟨X5,a6⟩:∃X5,X4++BI r.bad=X5:=⟨_,rfl⟩;have l5:X5.length<=2^41+2^38:=by rw[<-a6,re,BI,re];omega
  rw[a6]at q5;have q6:=λh O=>RI [(r.owners.length:Int)] (by intro n N;simp at N;subst N;unfold i64;omega) Ac h 1 X5 O AE;obtain⟨X6,a7⟩:∃X6,X5++[(r.owners.length:Int)].flatMap Aj=X6:=⟨_,rfl⟩;have i8:=Al r.owners.length;have l6:X6.length<=2^41+2^38+10:=by rw[<-a7];simp;omega
  rw[a7]at q6;have q7:=λC J=>fQ C r.owners G.owners b6 X6 AE J;have i9:=DL Ep r.owners;obtain⟨X7,a8⟩:∃X7,X6++r.owners.flatMap Bl=X7:=⟨_,rfl⟩;have l7:X7.length<=2^41+2^39:=by rw[<-a8,re];omega
  rw[a8]at q7;have q8:=λh O=>RI [(r.lics.length:Int)] (by intro n N;simp at N;subst N;unfold i64;omega) Ac h 1 X7 O AE;obtain⟨X8,b0⟩:∃X8,X7++[(r.lics.length:Int)].flatMap Aj=X8:=⟨_,rfl⟩;have c2:=Al r.lics.length;have l8:X8.length<=2^41+2^39+10:=by rw[<-b0];simp;omega
  rw[b0]at q8;have q9:=λC J=>fP C r.lics G.lics b5 X8 AE J;have c3:=DL Er r.lics;obtain⟨X9,b1⟩:∃X9,X8++r.lics.flatMap Bm=X9:=⟨_,rfl⟩;have l9:X9.length<=2^42:=by rw[<-b1,re];omega
  rw[b1]at q9;have b3:X9=R:=by rw[<-hR,<-b1,<-b0,<-a8,<-a7,<-a6,<-a2,<-a1,<-Z,<-W];simp[A7]
  rw[b3]at q9 l9;simp[AM]at p2 q1 q2 q3 q5 q6 q8;simp only[Zw,As 51,AB 51 0,AB 51 1,Ad];simp[Rgt.V,Rgt.cs,AM]at p1 ⊢;refine⟨_,_,p1 _,?_⟩;simp[AD,AB 51 3,AB 51 4];simp[AB 51 5,D.vs?,D.v?];refine⟨_,_,(q1 _ rfl),?_⟩;simp[AB 51 6];refine⟨_,_,p2 _,?_⟩;simp[AB 51 7];refine⟨_,_,(q2 _ rfl),?_⟩;simp[AB 51 8,D.vs?,D.v?];refine⟨_,_,(q3 _ rfl),?_⟩;simp[AB 51 9];refine Ap _ ?_ (q4 _ _);rintro e ⟨se,sh⟩ ⟨rfl,f1,f4,f5,J2,U⟩;simp only at f1 f4 f5 U;subst U;simp[AB 51 14,f1,f4,f5];refine⟨_,_,(q5 _ rfl),?_⟩;simp[AB 51 15,D.vs?,D.v?];refine⟨_,_,(q6 _ rfl),?_⟩;simp[AB 51 16];refine Ap _ ?_ (q7 _ _);rintro e ⟨se,sh⟩ ⟨rfl,f1,f4,f5,J2,U⟩;simp only at f1 f4 f5 U;subst U;simp[AB 51 21,f1,f4,f5,D.vs?,D.v?];refine⟨_,_,(q8 _ rfl),?_⟩;simp[AB 51 22];refine Ap _ ?_ (q9 _ _);rintro e ⟨se,sh⟩ ⟨rfl,f4,f5,J2,U⟩;simp only at f4 f5 U;subst U;simp[AB 51 27,f4];refine⟨_,_,(Z5 _ 1 R rfl AE),?_⟩;simp[AA,AW 51]
section
def Fm(r:Rgt):Int×List Int:=(r.file,A7 r)
def Ir(l:List Rgt):KM:=l.foldl (λK r=>K.set r.file (A7 r)) ⟨[],[],0⟩
def RX(l:List Rgt):HM:=l.foldl (λm r=>I3 12 0 r.file (CX r.file (A7 r)) m) ⟨[],[],0⟩
def GM(l:List Rgt)(k:Nat):Int:=
 match l[k]? with
 |none=>0
 |some r=>if Ao r then (if (l.take k).any (λq=>q.file==r.file) then 8 else KT r.file (A7 r)) else 1
variable {k:Nat}
def Oi{l:List Rgt}{r:Rgt}(h:l[k]?=some r):GM l k=if Ao r then (if (l.take k).any (λq=>q.file==r.file) then 8 else KT r.file (A7 r)) else 1:=by simp[GM,h]
def Oh{l:List Rgt}{r:Rgt}(h:l[k]?=some r)(G:GM l k=0):Ao r=true/\(l.take k).any (λq=>q.file==r.file)=false/\KT r.file (A7 r)=0:=by
 rw[Oi h]at G;cases hf:Ao r with
 |false=>rw[hf]at G;simp at G
 |true=>
  cases ha:(l.take k).any (λq=>q.file==r.file)with
  |true=>rw[hf,ha]at G;simp at G
  |false=>rw[hf,ha]at G;simp at G;exact⟨rfl,rfl,G⟩
def GT{α:Type}{l:List α}{x:α}(h:l[k]?=some x):l.take (k+1)=l.take k++[x]:=by rw[rx,h];rfl
def MX(l:List Rgt)(r:Rgt):Ir (l++[r])=(Ir l).set r.file (A7 r):=by simp[Ir]
def QV(l:List Rgt)(r:Rgt):RX (l++[r])=I3 12 0 r.file (CX r.file (A7 r)) (RX l):=by simp[RX]
def F2(l:List Rgt)(k:Int):(l.map Fm).findIdx? (λx=>x.1==k)=none↔l.any (λq=>q.file==k)=false:=by rw[uf,tD];simp[Fm]
def Yl{l:List Rgt}:∀k≤l.length,(∀j <k,GM l j=0)->(Ir (l.take k)).E=(l.take k).map Fm
 |0,_,_=>by simp[Ir]
 |k+1,hk,h=>by obtain⟨r,G⟩:∃r,l[k]?=some r:=⟨_,rW AE⟩;have J:=Yl k AE λj U=>h j AE;obtain⟨N,h2,O⟩:=Oh G (h k AE);rw[GT G,MX,KM.set,J,(F2 _ _).2 h2];simp[Fm]
def QQ(ps:List (Int×List Int))(k:Int)(v:List Int)(h:ps.findIdx? (λx=>x.1==k)=none):Jk (ps++[(k,v)])=upd (Jk ps) k (CX k v):=by
 funext x
 rw[uf]at h;simp only[Jk,upd,List.find?_append];by_cases hx:x=k
 .subst hx;have:ps.find? (λp=>p.1==x)=none:=tb.2 λp G=>by have:=h p G;simpa using this
  simp[this]
 .have:([(k,v)]:List (Int×List Int)).find? (λp=>p.1==x)=none:=by simp;exact λe=>hx e.symm
  rw[this,if_neg hx,Option.or_none]
def O4{l:List Rgt}:∀k≤l.length,(∀j <k,GM l j=0)->IV (Jk ((l.take k).map Fm)) (RX (l.take k))
 |0,_,_=>by
  intro a W n;have e:Jk ((l.take 0).map Fm)=λ_=>none:=by funext x;simp[Jk]
  rw[e];have G:∀a:Nat,∀n:Int,bH (λ_=>none) a n=none:=by
   intro a n;cases G:bH (λ_=>none) a n with
   |none=>rfl
   |some v=>
    obtain⟨k,_,_,J⟩:=(Sy (λ_=>none) a n).1 (by rw[G];rfl);simp at J
  rw[G];simp[RX,HM.get,Bz]
 |k+1,hk,h=>by obtain⟨r,N⟩:∃r,l[k]?=some r:=⟨_,rW AE⟩;have O:=O4 k AE λj Z=>h j AE;obtain⟨U,h2,J⟩:=Oh N (h k AE);rw[GT N,QV,r9,List.map_singleton];have:Fm r=(r.file,A7 r):=rfl;rw[this,QQ _ _ _ ((F2 _ _).2 h2)];exact Wv O r.file (CX r.file (A7 r))
def qr(h:List Row)(x t q:Nat)(d J G:D)(m:HM)(hx:h[x]?=some (.cells [d,J,.R t 0]))(O:h[t]?=some (.cells [G,.mr q]))(N:h[q]?=some m.row):
  FX 17 [.R x 0] h [.v (.int .u64 ((m.get (12,0)).getD 0))] h:=by
 refine EH 17 ?_;have U:=qe h t q m G O N;simp only[As 17,AH,AJ,AB 17 0,AB 17 1,AZ];simp[hx];refine⟨_,_,U,?_⟩;simp[AA,AW 17]
end
section
def F5(d:D)(n:Nat)(l:List Rgt):List Row:=[(Ir l).row,(Ir l).row,(RX l).row,.cells [.mr (n+1),.mr (n+2)],.cells [d,.mr n,.R (n+3) 0]]
def PN(h:List Row)(d:D)(l:List Rgt)(H:List Row):Prop:=∃J,H=h++(F5 d h.length l++J)/\∀row∈J,∀n,row.low n=true
def Wq(r:Rgt)(n:Nat):r.row.low n=true:=by simp[Rgt.row,Row.low,D.lts,D.lt]
def PN.low{h H:List Row}{d:D}{l:List Rgt}(W:PN h d l H)(hd:D.lt h.length d=true)(U:∀row∈h,row.low h.length=true):∀row∈H,row.low H.length=true:=by
 obtain⟨J,rfl,O⟩:=W;have N:h.length+5<=(h++(F5 d h.length l++J)).length:=by simp[F5]
 intro row G;rcases rp.1 G with G|G
 .exact Row.low_mono AE (U row G)
 rcases rp.1 G with G|G
 .refine Row.low_mono N ?_;simp only[F5,rj,sK,or_false]at G;rcases G with rfl|rfl|rfl|rfl|rfl
  .rfl
  .rfl
  .rfl
  .simp[Row.low,D.lts,D.lt]
  .simp[Row.low,D.lts,D.lt];exact FG AE d hd
 .exact O row G _
variable {d:D} {H h:List Row}
def PN.get{l:List Rgt}(G:PN h d l H):H[h.length]?=some (Ir l).row/\H[h.length+1]?=some (Ir l).row/\H[h.length+2]?=some (RX l).row/\
  H[h.length+3]?=some (.cells [.mr (h.length+1),.mr (h.length+2)])/\H[h.length+4]?=some (.cells [d,.mr h.length,.R (h.length+3) 0]):=by
 obtain⟨J,rfl,N⟩:=G;simp[F5]
def PN.app{l:List Rgt}(O:PN h d l H)(r:Rgt):PN h d l (H++[r.row]):=by
 obtain⟨J,rfl,N⟩:=O;refine⟨J++[r.row],Ac,λrow G n=>?_⟩;rcases rp.1 G with G|G
 .exact N row G n
 .simp only[rm]at G;subst G;exact Wq r n
def PN.set{h H:List Row}{d:D}{l:List Rgt}(N:PN h d l H)(r:Rgt):
  PN h d (l++[r]) (((H.set (h.length+1) ((Ir l).set r.file (A7 r)).row).set (h.length+2) (I3 12 0 r.file (CX r.file (A7 r)) (RX l)).row).set h.length ((Ir l).set r.file (A7 r)).row):=by
 obtain⟨J,rfl,G⟩:=N;refine⟨J,?_,G⟩;have e:∀(i:Nat)(x:Row)(t:List Row),(h++t).set (h.length+i) x=h++t.set i x:=by intro i x t;rw[uZ _ _ AE,Nat.add_sub_cancel_left]
 have e0:=λx t=>e 0 x t;simp only[uH]at e0;rw[e,e,e0];simp[F5,MX,QV]
def bc:AC:=(.seq (.reg (oG 13 8) [6,8,9,10,21,22,23,33]) (.cond (.t 33 false) (.seq (.reg (oG 13 9) [4,5]) .ret) .skip))
def ii:AC:=(.seq (.regD (oG 13 10) [6,8,9,12,21,22,23] [[],[0],[0,1],[0,1,2],[],[4],[0,1,2,3,4,5],[0,1,2,3,4,5,6],[0,1,2,3,4,5,6,7],[0,1,2,3,4,5,6,7],[0,1,2,3,4,5,6,7,8],[0,1,2,3,4,5,6,7,8,9,10]]) (.seq (.reg (oG 13 11) [6,8,9,21,22,23,45]) (.cond (.t 45 false) (.seq (.reg (oG 13 12) [4,5]) .ret) .skip)))
def ig:AC:=(.seq (.regD (oG 13 13) [6,8,9,13,21,22,23] [[],[0],[0,1],[0,1,2],[],[4],[],[0,1,2,3,4,5,6],[0,1,2,3,4,5,6,7]]) (.seq (.reg (oG 13 14) [6,8,9,13,21,22,23,55]) (.cond (.t 55 false) (.seq (.reg (oG 13 15) [4,5]) .ret) .skip)))
def ic:AC:=(.regD (oG 13 16) [6,21,22,23] [[],[0],[0,1],[0,1,2],[],[4],[],[0,1,2,3,4,5,6]])
def ba:AC:=(.seq (.reg (oG 13 6) [6,8,21,22,23]) (.seq (.reg (oG 13 7) [6,8,9,10,21,22,23]) (.seq bc (.seq ii (.seq ig ic)))))
def V8:(lG 13 0)=(.seq (.reg (oG 13 5) [6,21,22,23,24]) (.seq (.cond (.t 24 false) .skip (.exit 0)) (.seq (.block 1 ba) (.reg (oG 13 17) [6,21,22,23])))):=(BG 13 0 :)
def rP(h:List Row)(d:D)(hd:D.lt h.length d=true)(hl:∀row∈h,row.low h.length=true)(l:List Rgt)(k:Nat)(r:Rgt)(hr:r.ok)(b2:(A7 r).length<=2^39)(hB:∀x∈A7 r,0<=x/\x <256)(a7:l[k]?=some r)(hk:k<=l.length)(hE:∀j <k,GM l j=0)(H:List Row)(hp:PN h d (l.take k) H)(a8:D)(K:AExit->St->Prop)(O:GM l k≠0->∀e H',AK e 4= .v .nilp->AK e 5=((GM l k:Int):D)->(∃J,H'=h++J)->K .ret ⟨e,H'⟩)(c1:GM l k=0->∀e H',AK e 6= .R (h.length+4) 0->AK e 21=(l.map Rgt.V:D)->AK e 22=a8->AK e 23=(k:D)->PN h d (l.take (k+1)) H'->K .normal ⟨e,H'⟩):
  ∀e,AK e 6= .R (h.length+4) 0->AK e 21=(l.map Rgt.V:D)->AK e 22=a8->AK e 23=(k:D)->AX ba K ⟨e,H⟩:=by
 intro e f6 b5 b6 b9;have p1:=(ju r hr).fsp;have G:=Oi a7;have W:=hp.app r;have a1:H++[.cells (r.cs.map D.v)]=H++[r.row]:=rfl;simp[Rgt.V,Rgt.cs,AM]at p1 a1;unfold ba;simp only[AH,AJ,AB 13 6];simp[f6,b5,b6,b9,a7,Rgt.V,Rgt.cs,AQ,AM];rw[a1];have g8:(H++[r.row])[H.length]?=some r.row:=Ac;have hT:h.length+5<=H.length:=by obtain⟨J,rfl,-⟩:=hp;simp[F5]
 generalize H.length=T at*;generalize H++[r.row]=H1 at*;have hJ:∃J,H1=h++J:=by obtain⟨J,hJ,-⟩:=W;exact⟨_,hJ⟩
 obtain⟨g0,g1,g2,g3,g4⟩:=W.get;simp[AB 13 7,g8,Rgt.row,AM];refine⟨_,_,p1 _,?_⟩;cases hf:Ao r with
 |false=>
  rw[hf]at G;simp at G;simp[bc,AH,AJ,AO,AB 13 8,AB 13 9,AA];exact O (by rw[G];decide) _ _ Ac (by simp[G]) hJ
 |true=>
  rw[hf]at G;simp at G;have b3:=Lm r.file (Ir (l.take k)).E;have b1:=Yl k hk hE;have b0:H1[h.length]?=some (.map ((Ir (l.take k)).E.map IL) (Ir (l.take k)).st (Ir (l.take k)).ck):=g0;simp[bc,AH,AJ,AO,AB 13 8,AD];simp only[ii,AH,Aa,AJ,AO,AB 13 10];simp[g4,g8,Rgt.row,b0,b3,Be,V.eqL,V.eq1];cases hi:(Ir (l.take k)).E.findIdx? (λx=>x.1==r.file)with
  |some i=>
   have c0:i <(Ir (l.take k)).E.length:=(tQ.1 hi).1;have Z:(l.take k).any (λq=>q.file==r.file)=true:=by
    cases ha:(l.take k).any (λq=>q.file==r.file)with
    |true=>rfl
    |false=>
     rw[<-F2,<-b1,hi]at ha;cases ha
   simp only[tX,beq_iff_eq]at Z;rw[if_pos Z]at G;simp[rW c0,Da,AB 13 11,AB 13 12,AA];exact O (by rw[G];decide) _ _ Ac (by simp[G]) hJ
  |none=>
   have N:=hi;rw[b1,F2]at N;have a6:¬ ∃x,x∈l.take k/\x.file=r.file:=by rintro⟨x,hx,c2⟩;rw[tD]at N;exact N x hx (by simpa using c2)
   rw[if_neg a6]at G;simp[Da,AB 13 11,AD];simp only[ig,AH,Aa,AJ,AO,AB 13 13];simp[g4,g8,Rgt.row];have p2:=qh H1 (h.length+3) (h.length+1) (h.length+2) _ _ g3 g1 g2 AE AE AE (W.low hd hl) r.file (A7 r) hB b2;simp[AM]at p2;by_cases hz:KT r.file (A7 r)=0
   .rw[hz]at G p2;rw[if_pos rfl]at p2;have a2:=W.set r;obtain⟨H2,U⟩:∃H2,(H1.set (h.length+1) ((Ir (l.take k)).set r.file (A7 r)).row).set (h.length+2) (I3 12 0 r.file (CX r.file (A7 r)) (RX (l.take k))).row=H2:=⟨_,rfl⟩;rw[U]at p2 a2;have e4:H2[h.length+4]?=some (.cells [d,.mr h.length,.R (h.length+3) 0]):=by rw[<-U,sG AE,sG AE];exact g4
    have e0:H2[h.length]?=some (.map ((Ir (l.take k)).E.map IL) (Ir (l.take k)).st (Ir (l.take k)).ck):=by rw[<-U,sG AE,sG AE];exact b0
    have e8:H2[T]?=some r.row:=by rw[<-U,sG AE,sG AE];exact g8
    refine⟨_,_,p2,?_⟩;simp[AB 13 14,AD,ic,Aa,AB 13 16];simp[e4,e8,e0,Rgt.row,b3,hi,Be,V.eqL,V.eq1];refine c1 (by rw[G]) _ _ Ac Ac Ac Ac ?_;rw[GT a7];have b4:=KM.row_new (A7 r) hi;simp[AM,IL]at b4;simpa[b4]using a2
   .rw[if_neg hz]at p2;refine⟨_,_,p2,?_⟩;simp[hz,AB 13 14,AB 13 15,AA];exact O (by rw[G];exact hz) _ _ Ac (by simp[G]) hJ
end
section
variable {m:Nat}
def Lt{r:Rgt}(h:r.tiny m)(hm:m<=2^20):(A7 r).length<=2^39:=by have h1:=h.lc;have h2:=h.ld;have h3:=h.lb;have h4:=h.lo;have h5:=h.ll;have e0:=HC h.claims;have N:=Al r.file;have e2:=Al r.state;have O:=Al r.force;have U:=Cu (BM r.claims).length;have W:=Al r.dates.length;have e6:=DL Es r.dates;have Z:=HB r.bad;have e8:=Al r.owners.length;have e9:=DL Ep r.owners;have G:=Al r.lics.length;have J:=DL Er r.lics;simp only[A7,BR,re];omega
def Rj{r:Rgt}(h:r.tiny m)(U:m<=2^20):isB (A7 r):=by
 have G:=h.lc;have h2:=h.ld;have J:=h.lb;have N:=h.lo;have O:=h.ll;have e0:=HC h.claims;unfold A7;refine isB.app (isB.app (isB.app (isB.app (isB.app (isB.app (isB.app (isB.app (isB.app (isB.app ?_ ?_) ?_) ?_) ?_) ?_) ?_) ?_) ?_) ?_) ?_
 .exact isB.encI h.file
 .exact isB.encI h.state
 .exact isB.encI h.force
 .exact isB.encRaw (isB.encClms (λc hc=>(h.claims c hc).ok) AE AE) AE
 .exact isB.encI (by unfold i64;omega)
 .exact isB.flat λx hx=>((isB.encI (h.dates x hx).1).app (isB.encI (h.dates x hx).2.1)).app (isB.encI (h.dates x hx).2.2.1) |>.app (isB.encI (h.dates x hx).2.2.2)
 .exact isB.encInts h.bad AE
 .exact isB.encI (by unfold i64;omega)
 .exact isB.flat λx hx=>((isB.encI (h.owners x hx).1).app (isB.encI (h.owners x hx).2.1)).app (isB.encI (h.owners x hx).2.2)
 .exact isB.encI (by unfold i64;omega)
 .exact isB.flat λx hx=>((isB.encI (h.lics x hx).1).app (isB.encI (h.lics x hx).2.1)).app (isB.encI (h.lics x hx).2.2.1) |>.app (isB.encI (h.lics x hx).2.2.2)
def TO(l:List Rgt):Int:=GO (GM l) 0 l.length
variable {k:Nat}
def Wt{l:List Rgt}(N:k <l.length)(h:∀j <k,GM l j=0)(J:GM l k≠0):TO l=GM l k:=Ij _ _ k (tB k) AE (λj _ G=>h j G) J
def Nc{l:List Rgt}(h:∀j <l.length,GM l j=0):TO l=0:=GF _ _ λj _ G=>h j AE
def rI(h:List Row)(d:D)(hd:D.lt h.length d=true)(hl:∀row∈h,row.low h.length=true)(hm:m<=2^20)(l:List Rgt)(a7:∀r∈l,r.tiny m)(hn:l.length<=2^30)(K:AExit->St->Prop)(U:∀k <l.length,(∀j <k,GM l j=0)->GM l k≠0->∀e G,AK e 4= .v .nilp->AK e 5=((GM l k:Int):D)->(∃J,G=h++J)->K .ret ⟨e,G⟩)(O:(∀j <l.length,GM l j=0)->∀e G,AK e 6= .R (h.length+4) 0->PN h d l G->K (.exit 0) ⟨e,G⟩):
  AX (.loop (lG 13 0)) K ⟨[(6,.R (h.length+4) 0),(21,(l.map Rgt.V:D)),(22,(l.length:D)),(23,((0:Int):D))],h++F5 d h.length []⟩:=by
 refine Ag l.length (λk s=>s.e=[(6,.R (h.length+4) 0),(21,(l.map Rgt.V:D)),(22,(l.length:D)),(23,(k:D))]/\(∀j <k,GM l j=0)/\PN h d (l.take k) s.h) ⟨Ac,λj hj=>AE,[],Ac,Ac⟩ ?_;rintro k ⟨se,H⟩ hk ⟨he,Z,hp⟩;simp only at he hp;subst he;rw[V8];simp only[Zw,AB 13 5];simp;by_cases N:k <l.length
 .obtain⟨r,W⟩:∃r,l[k]?=some r:=⟨_,rW N⟩;have hr:=a7 r (rY W);have hw:=Bt k;rw[CF,AD];refine rP h d hd hl l k r (hr.ok hm) (Lt hr hm) (Rj hr hm) W hk Z H hp (l.length:D) _ ?_ ?_ _ Ac Ac Ac Ac
  .intro hz e G h4 h5 hJ;exact U k N Z hz e G h4 h5 hJ
  .intro hz e G f6 a1 a2 a6 a8;simp[AB 13 17,f6,a1,a2,a6,hw,N];refine⟨λj hj=>?_,a8⟩;rcases sL j k with h|h
   .exact Z j h
   .have:j=k:=AE;subst this;exact hz
 .have:k=l.length:=AE;subst this;rw[Bj,AN];simp;rw[sE]at hp;exact O Z _ _ Ac hp
theorem qt(h:List Row)(c:Nat)(hc:c <h.length)(U:∀row∈h,row.low h.length=true)(hm:m<=2^20)(l:List Rgt)(W:∀r∈l,r.tiny m)(hn:l.length<=2^30):
  FX 13 [.R c 0,(l.map Rgt.V:D)] h (if TO l=0 then [.R (h.length+4) 0,((0:Int):D)] else [.v .nilp,((TO l:Int):D)]) (if TO l=0 then h++F5 (.R c 0) h.length l else h):=by
 have hd:D.lt h.length (.R c 0)=true:=by simp[D.lt,hc]
 have q0:PN h (.R c 0) l (h++(F5 (.R c 0) h.length l++[])):=⟨[],rfl,Ac⟩;rw[sk]at q0;have G:=qi (h++[KM.row ⟨[],[],0⟩]);refine At (D6 13) rfl ?_ ?_ ?_ ?_
 .split<;>simp
 .split
  .exact q0.low hd U
  .exact U
 .split
  .simp[D.lt,F5]
  .simp[D.lt]
 simp only[Zw,As 13,AB 13 0,AB 13 1,AZ];simp[AD,AB 13 3];simp[KM.row,HM.row]at G;refine⟨_,_,G,?_⟩;simp[AB 13 4,AQ];have e0:h++[Row.map [] [] 0,Row.map [] [] 0,Row.map [] [] 0,Row.cells [D.mr (h.length+1),D.mr (h.length+1+1)],Row.cells [D.R c 0,D.mr h.length,D.R (h.length+1+2) 0]]=h++F5 (.R c 0) h.length []:=by simp[F5,Ir,RX,KM.row,HM.row]
 rw[e0];refine rI h (.R c 0) hd U hm l W hn _ ?_ ?_
 .intro k hk N Z e H' h4 h5 O;rw[Wt hk N Z,if_neg Z];simp[AW 13,h4,h5,Z,O]
 .intro N e H' h6 hp;obtain⟨J,O,-⟩:=hp;simp[Nc N,AB 13 18,h6,AA,AW 13,O]
end
section
abbrev lo(f k:Nat){x:(Nat->Int)->(Nat->Int)->List GI}(_h:(λI J=>QY PG BK IE f I J k)=x:=by conv=>lhs;reduce):List GI:=x (λn=> @OfNat.ofNat Int n _) (λn=> -@OfNat.ofNat Int n _)
variable {e:CC} {bn:List Nat}
def EnvD.pushW{J cs:List (Option Nat)}{vs bv:Nat->D}{d:Nat->Bool}(O:EnvD J cs bn vs bv d e)(N:XD J bn=true)(i k j m:Nat){v w:D}(hi:J[i]?=some (some k))(Z:vs i=v)(U:cs[j]?=some (some i))(W:J[j]?=some (some m)):
  EnvD J cs bn vs bv (C8 d i) ((k,v)::(m,w)::e):=by
 refine O.step N i (λk' G=>?_) (λk' G hc=>?_)
 .rw[hi]at G;simp only[rV]at G;subst G;show (if k=k then v else _)=vs i;rw[if_pos rfl,Z]
 .show (if k=k' then v else if m=k' then w else AK e k')=AK e k';rw[if_neg (λh=>G (by rw[hi,h])),if_neg (λh=>hc j U (by rw[W,h]))]
def UZ:AT:=match ll 113 0 with| .seq _ (.seq _ (.seq (.block _ (.regA _ _ _ t)) _))=>t|_=> .done
def Vy:List (List Nat):=match ll 113 0 with| .seq _ (.seq _ (.seq (.block _ (.regA _ _ c _)) _))=>c|_=>[]
def T8:(lG 113 0)= .seq (.reg (oG 113 9) [1,2,4,5,6,33,34,35]) (.seq (.cond (.t 35 false) .skip (.exit 0)) (.seq (.block 1 (.regA (oG 113 10) [1,2,4,5,6,33,34] Vy UZ)) (.reg (oG 113 11) [1,2,4,5,6,33,34]))):=(BG 113 0 :)
def Lu:List GI:=lo 113 10
def Xo:oG 113 10=Lu:=(AB 113 10 :)
def TF:UZ.chk Lu Vy (List.range 16)=true:=HR
def MO:List (Option Nat):=[some 36,some 37,some 38,some 39,some 40,some 41,some 42,some 43,some 44,some 45,some 46,some 47,some 48,some 49,some 50,none]
def Dj:List (Option Nat):=[none,some 13,none,none,none,none,none,none,none,none,none,none,none,some 15,none,none]
def GS:List Nat:=[1,2,4,5,6,33,34]
def El:XD MO GS=true:=HR
def UN(x:Dat)(ds:List V)(j:Nat):D:=
 match j with
 |0|14=> .R 4 4
 |1=> .W 88 4 ds
 |2|4|7|9=> .R 2 0
 |3=> .v (.int .i64 x.cl)
 |5=> .v (.int .i64 x.ix)
 |6=> .agg [.v (.int .i64 x.cl),.v (.int .i64 x.ix)]
 |8=> .v (.int .i64 x.day)
 |10=> .v (.int .i64 x.file)
 |11=> .agg [.v (.int .i64 x.cl),.v (.int .i64 x.ix),.v (.int .i64 x.day),.v (.int .i64 x.file)]
 |12=> .W 88 4 [x.V]
 |13=> .W 88 4 (ds++[x.V])
 |_=> .any
def Ca(d:Nat->Bool):Nat:=if d 10 then 4 else if d 8 then 3 else if d 5 then 2 else if d 3 then 1 else 0
def DQ(x:Dat)(rest:List Int):Nat->List Int
 |0=>Aj x.cl++(Aj x.ix++(Aj x.day++(Aj x.file++rest)))
 |1=>Aj x.ix++(Aj x.day++(Aj x.file++rest))
 |2=>Aj x.day++(Aj x.file++rest)
 |3=>Aj x.file++rest
 |_=>rest
def Ci(x:Dat)(ds:List V)(d:Nat->Bool):D:=if d 15 then .W 88 4 (ds++[x.V]) else if d 1 then .v (.list ds) else .W 88 4 ds
def A8(C0 C1:Row)(f st fo cl bad ow li:D)(x:Dat)(rest:List Int)(ds:List V)(d:Nat->Bool):List Row:=
 [C0,C1,DO (DQ x rest (Ca d)),.cells [.R 2 0],.cells [f,st,fo,cl,Ci x ds d,bad,ow,li]]
def OC(n k:Int)(j:Nat):D:=
 match j with
 |1=> .R 0 0
 |2=> .R 1 0
 |4=> .R 3 0
 |5=> .func 204 [.R 3 0,.R 0 0]
 |6=> .R 4 0
 |33=> .v (.int .i64 n)
 |34=> .v (.int .i64 k)
 |_=> .any
variable {K:St->Prop}
def gZ(U W:Row)(f st Z cl bad ow li:D)(x:Dat)(hx:x.ok)(G:List Int)(ds:List V)(b5:ds.length<=2^30)(n k:Int)(hK:∀e,(∀k'∈GS,AK e k'=OC n k k')->K ⟨e,A8 U W f st Z cl bad ow li x G ds (λ_=>true)⟩)(se:CC)(a7:∀k'∈GS,AK se k'=OC n k k'):
  UZ.ok Tryz.prog BK (oG 113 10) K ⟨se,A8 U W f st Z cl bad ow li x G ds (λj=>decide (16<=j))⟩:=by
 rw[Xo];refine KC (λd s=>EnvD MO Dj GS (UN x ds) (OC n k) d s.e/\s.h=A8 U W f st Z cl bad ow li x G ds d) TF ?_ ?_ ?_
 .rintro d i ⟨e,h⟩ hi N hdep hup ⟨J,hh⟩;simp only at J hh;subst hh;have b4:AK e 4= .R 3 0:=J.2 4 (by simp[GS]);have b6:AK e 6= .R 4 0:=J.2 6 (by simp[GS]);have ld:∀(i k':Nat),(i=2/\k'=38\/i=4/\k'=40\/i=7/\k'=43\/i=9/\k'=45)->d i=false->Lu.getD i default=⟨none,.p k' (.load (.t 4 false) 1 false)⟩->∃s1,Bh Tryz.prog BK (Lu.getD i default) ⟨e,A8 U W f st Z cl bad ow li x G ds d⟩ s1/\EnvD MO Dj GS (UN x ds) (OC n k) (C8 d i) s1.e/\s1.h=A8 U W f st Z cl bad ow li x G ds (C8 d i):=by
   intro i k' a1 N hx;refine⟨⟨(k',.R 2 0)::e,_⟩,Bg hx (by simp[PI.val,Opd.ev,b4,A8,D.part,D.copy]),J.push El i k' ?_ ?_,?_⟩
   .rcases a1 with ⟨rfl,rfl⟩|⟨rfl,rfl⟩|⟨rfl,rfl⟩|⟨rfl,rfl⟩<;>rfl
   .rcases a1 with ⟨rfl,rfl⟩|⟨rfl,rfl⟩|⟨rfl,rfl⟩|⟨rfl,rfl⟩<;>rfl
   .rcases a1 with ⟨rfl,rfl⟩|⟨rfl,rfl⟩|⟨rfl,rfl⟩|⟨rfl,rfl⟩<;>simp[A8,Ca,Ci,C8]
  match i,hi with
  |0,_=>
   exact⟨_,Bg (v:= .R 4 4) rfl (by simp[PI.val,Opd.ev,b6]),J.push El 0 36 rfl rfl,by simp[A8,Ca,Ci,C8]⟩
  |1,_=>
   have v0:AK e 36= .R 4 4:=J.1 0 36 rfl (hdep 0 Ah) (by intro c hc;simp[Dj]at hc);have a6:d 15=false:=hup 15 Ah Ah;refine⟨_,Cw (s1:=⟨(37,.W 88 4 ds)::e,A8 U W f st Z cl bad ow li x G ds (C8 d 1)⟩) rfl ?_,J.push El 1 37 rfl rfl,rfl⟩;simp[AI.step,Opd.ev,v0,A8,Ci,a6,N,C8,Ca]
  |2,_=>exact ld 2 38 Ah N rfl
  |4,_=>exact ld 4 40 Ah N rfl
  |7,_=>exact ld 7 43 Ah N rfl
  |9,_=>exact ld 9 45 Ah N rfl
  |3,_=>
   have v2:AK e 38= .R 2 0:=J.1 2 38 rfl (hdep 2 Ah) (by intro c hc;simp[Dj]at hc);have d5:d 5=false:=hup 5 Ah Ah;have d8:d 8=false:=hup 8 Ah Ah;have O:d 10=false:=hup 10 Ah Ah;have hF:=M9 x.cl hx.1 (A8 U W f st Z cl bad ow li x G ds d) 2 (Aj x.ix++(Aj x.day++(Aj x.file++G))) (by simp[A8,DQ,Ca,N,d5,d8,O]);exact⟨_,Cx (k:=39) (r:=(x.cl:D)) rfl (by simpa[A9,D.arg,Opd.ev,v2]using hF),J.push El 3 39 rfl rfl,by simp[A8,DQ,Ca,Ci,C8,N,d5,d8,O]⟩
  |5,_=>
   have v4:AK e 40= .R 2 0:=J.1 4 40 rfl (hdep 4 Ah) (by intro c hc;simp[Dj]at hc);have d8:d 8=false:=hup 8 Ah Ah;have O:d 10=false:=hup 10 Ah Ah;have d3:d 3=true:=hdep 3 Ah;have hF:=M9 x.ix hx.2.1 (A8 U W f st Z cl bad ow li x G ds d) 2 (Aj x.day++(Aj x.file++G)) (by simp[A8,DQ,Ca,N,d8,O,d3]);exact⟨_,Cx (k:=41) (r:=(x.ix:D)) rfl (by simpa[A9,D.arg,Opd.ev,v4]using hF),J.push El 5 41 rfl rfl,by simp[A8,DQ,Ca,Ci,C8,N,d8,O,d3]⟩
  |8,_=>
   have v7:AK e 43= .R 2 0:=J.1 7 43 rfl (hdep 7 Ah) (by intro c hc;simp[Dj]at hc);have O:d 10=false:=hup 10 Ah Ah;have d3:d 3=true:=hdep 3 Ah;have d5:d 5=true:=hdep 5 Ah;have hF:=M9 x.day hx.2.2.1 (A8 U W f st Z cl bad ow li x G ds d) 2 (Aj x.file++G) (by simp[A8,DQ,Ca,N,O,d5]);exact⟨_,Cx (k:=44) (r:=(x.day:D)) rfl (by simpa[A9,D.arg,Opd.ev,v7]using hF),J.push El 8 44 rfl rfl,by simp[A8,DQ,Ca,Ci,C8,N,O,d5]⟩
  |10,_=>
   have v9:AK e 45= .R 2 0:=J.1 9 45 rfl (hdep 9 Ah) (by intro c hc;simp[Dj]at hc);have d3:d 3=true:=hdep 3 Ah;have d5:d 5=true:=hdep 5 Ah;have d8:d 8=true:=hdep 8 Ah;have hF:=M9 x.file hx.2.2.2 (A8 U W f st Z cl bad ow li x G ds d) 2 (G) (by simp[A8,DQ,Ca,N,d8]);exact⟨_,Cx (k:=46) (r:=(x.file:D)) rfl (by simpa[A9,D.arg,Opd.ev,v9]using hF),J.push El 10 46 rfl rfl,by simp[A8,DQ,Ca,Ci,C8,N,d8]⟩
  |6,_=>
   have v3:AK e 39=(x.cl:D):=J.1 3 39 rfl (hdep 3 Ah) (by intro c hc;simp[Dj]at hc);have v5:AK e 41=(x.ix:D):=J.1 5 41 rfl (hdep 5 Ah) (by intro c hc;simp[Dj]at hc);exact⟨_,Bg (v:= .agg [(x.cl:D),(x.ix:D)]) rfl (by simp[PI.val,Fu,Opd.ev,v3,v5,D.cells?,D.copy,AQ]),J.push El 6 42 rfl rfl,by simp[A8,Ca,Ci,C8]⟩
  |11,_=>
   have v6:AK e 42= .agg [(x.cl:D),(x.ix:D)]:=J.1 6 42 rfl (hdep 6 Ah) (by intro c hc;simp[Dj]at hc);have v8:AK e 44=(x.day:D):=J.1 8 44 rfl (hdep 8 Ah) (by intro c hc;simp[Dj]at hc);have a8:AK e 46=(x.file:D):=J.1 10 46 rfl (hdep 10 Ah) (by intro c hc;simp[Dj]at hc);exact⟨_,Bg (v:= .agg [(x.cl:D),(x.ix:D),(x.day:D),(x.file:D)]) rfl (by simp[PI.val,Fu,Opd.ev,v6,v8,a8,D.cells?,D.copy,AQ]),J.push El 11 47 rfl rfl,by simp[A8,Ca,Ci,C8]⟩
  |12,_=>
   have b0:AK e 47= .agg [(x.cl:D),(x.ix:D),(x.day:D),(x.file:D)]:=J.1 11 47 rfl (hdep 11 Ah) (by intro c hc;simp[Dj]at hc);refine⟨_,Cw (s1:=⟨(48,.W 88 4 [x.V])::e,A8 U W f st Z cl bad ow li x G ds d⟩) rfl ?_,J.push El 12 48 rfl rfl,?_⟩
   .simp[AI.step,I1,D.toV,Opd.ev,b0,Dat.V,D.vs?,D.v?,D.copy,V.cells]
   .simp[A8,Ca,Ci,C8]
  |13,_=>
   have v1:AK e 37= .W 88 4 ds:=J.1 1 37 rfl (hdep 1 Ah) (by intro c hc;simp[Dj]at hc;subst hc;exact N);have b1:AK e 48= .W 88 4 [x.V]:=J.1 12 48 rfl (hdep 12 Ah) (by intro c hc;simp[Dj]at hc);have a2:AV (ds.length+1) 32=true:=by simp[AV];omega
   refine⟨_,Cw (s1:=⟨(49,.W 88 4 (ds++[x.V]))::(37,(ds:D))::e,A8 U W f st Z cl bad ow li x G ds d⟩) rfl ?_,J.pushW El 13 49 1 37 rfl rfl rfl rfl,?_⟩
   .simp[AI.step,Opd.ev,Opd.clear,v1,b1,EC,D.toV,D.copy,Dat.V,V.cells,a2,D.v?]
   .simp[A8,Ca,Ci,C8]
  |14,_=>
   exact⟨_,Bg (v:= .R 4 4) rfl (by simp[PI.val,Opd.ev,b6]),J.push El 14 50 rfl rfl,by simp[A8,Ca,Ci,C8]⟩
  |15,_=>
   have b2:AK e 49= .W 88 4 (ds++[x.V]):=J.1 13 49 rfl (hdep 13 Ah) (by intro c hc;simp[Dj]at hc;subst hc;exact N);have b3:AK e 50= .R 4 4:=J.1 14 50 rfl (hdep 14 Ah) (by intro c hc;simp[Dj]at hc);refine⟨_,Cw (s1:=⟨(49,.any)::e,A8 U W f st Z cl bad ow li x G ds (C8 d 15)⟩) rfl ?_,J.last El 15 13 49 rfl rfl rfl,rfl⟩;simp[AI.step,Opd.ev,b2,b3,A8,Ci,C8,Ca,D.copy]
  |i+16,hi=>omega
 .rintro d ⟨e,h⟩ hall ⟨J,hh⟩;simp only at J hh;subst hh;have e1:A8 U W f st Z cl bad ow li x G ds d=A8 U W f st Z cl bad ow li x G ds (λ_=>true):=by simp[A8,Ca,Ci,hall 10 Ah,hall 15 Ah]
  rw[e1];exact hK e J.2
 .refine⟨⟨λj k' hj hd=>?_,a7⟩,rfl⟩;simp only[decide_eq_true_eq]at hd;have:MO[j]?=none:=sU (by simpa[MO]using hd);rw[this]at hj;cases hj
end
section
def UY:AT:=match ll 113 1 with| .seq _ (.seq _ (.seq (.block _ (.regA _ _ _ t)) _))=>t|_=> .done
def Vx:List (List Nat):=match ll 113 1 with| .seq _ (.seq _ (.seq (.block _ (.regA _ _ c _)) _))=>c|_=>[]
def T7:(lG 113 1)= .seq (.reg (oG 113 14) [1,2,4,5,6,56,57,58]) (.seq (.cond (.t 58 false) .skip (.exit 2)) (.seq (.block 3 (.regA (oG 113 15) [1,2,4,5,6,56,57] Vx UY)) (.reg (oG 113 16) [1,2,4,5,6,56,57]))):=(BG 113 1 :)
def Sx:List GI:=lo 113 15
def Xn:oG 113 15=Sx:=(AB 113 15 :)
def TE:UY.chk Sx Vx (List.range 14)=true:=HR
def Oe:List (Option Nat):=[some 59,some 60,some 61,some 62,some 63,some 64,some 65,some 66,some 67,some 68,some 69,some 70,some 71,none]
def EW:List (Option Nat):=[none,some 11,none,none,none,none,none,none,none,none,none,some 13,none,none]
def HL:List Nat:=[1,2,4,5,6,56,57]
def EO:XD Oe HL=true:=HR
def ZT(x:Own)(ds:List V)(j:Nat):D:=
 match j with
 |0=> .R 4 6
 |1=> .W 246 3 ds
 |2=> .R 2 0
 |3=> .v (.int .i64 x.party)
 |4=> .R 2 0
 |5=> .v (.int .i64 x.num)
 |6=> .R 2 0
 |7=> .v (.int .i64 x.den)
 |8=> .agg [.v (.int .i64 x.num),.v (.int .i64 x.den)]
 |9=> .agg [.v (.int .i64 x.party),.v (.int .i64 x.num),.v (.int .i64 x.den)]
 |10=> .W 246 3 [x.V]
 |11=> .W 246 3 (ds++[x.V])
 |12=> .R 4 6
 |_=> .any
def CZ(d:Nat->Bool):Nat:=if d 7 then 3 else (if d 5 then 2 else (if d 3 then 1 else (0)))
def D0(x:Own)(rest:List Int):Nat->List Int
 |0=>Aj x.party++(Aj x.num++(Aj x.den++rest))
 |1=>Aj x.num++(Aj x.den++rest)
 |2=>Aj x.den++rest
 |_=>rest
def CU(x:Own)(ds:List V)(d:Nat->Bool):D:=if d 13 then .W 246 3 (ds++[x.V]) else if d 1 then .v (.list ds) else .W 246 3 ds
def BB(C0 C1:Row)(f st fo cl y1 y2 y3:D)(x:Own)(rest:List Int)(ds:List V)(d:Nat->Bool):List Row:=
 [C0,C1,DO (D0 x rest (CZ d)),.cells [.R 2 0],.cells [f,st,fo,cl,y1,y2,CU x ds d,y3]]
def Ms(n k:Int)(j:Nat):D:=
 match j with
 |1=> .R 0 0
 |2=> .R 1 0
 |4=> .R 3 0
 |5=> .func 204 [.R 3 0,.R 0 0]
 |6=> .R 4 0
 |56=> .v (.int .i64 n)
 |57=> .v (.int .i64 k)
 |_=> .any
variable {K:St->Prop}
def gY(N O:Row)(f st U cl W Z y3:D)(x:Own)(hx:x.ok)(G:List Int)(ds:List V)(b1:ds.length<=2^30)(n k:Int)(hK:∀e,(∀k'∈HL,AK e k'=Ms n k k')->K ⟨e,BB N O f st U cl W Z y3 x G ds (λ_=>true)⟩)(se:CC)(a6:∀k'∈HL,AK se k'=Ms n k k'):
  UY.ok Tryz.prog BK (oG 113 15) K ⟨se,BB N O f st U cl W Z y3 x G ds (λj=>decide (14<=j))⟩:=by
 rw[Xn];refine KC (λd s=>EnvD Oe EW HL (ZT x ds) (Ms n k) d s.e/\s.h=BB N O f st U cl W Z y3 x G ds d) TE ?_ ?_ ?_
 .rintro d i ⟨e,h⟩ hi hdi hdep hup ⟨J,hh⟩;simp only at J hh;subst hh;have b4:AK e 4= .R 3 0:=J.2 4 (by simp[HL]);have b6:AK e 6= .R 4 0:=J.2 6 (by simp[HL])
  match i,hi with
  |0,_=>
   exact⟨_,Bg (v:= .R 4 6) rfl (by simp[PI.val,Opd.ev,b6]),J.push EO 0 59 rfl rfl,by simp[BB,CZ,CU,C8]⟩
  |1,_=>
   have v0:AK e 59= .R 4 6:=J.1 0 59 rfl (hdep 0 Ah) (by intro c hc;simp[EW]at hc);have a2:d 13=false:=hup 13 Ah Ah;refine⟨_,Cw (s1:=⟨(60,.W 246 3 ds)::e,BB N O f st U cl W Z y3 x G ds (C8 d 1)⟩) rfl ?_,J.push EO 1 60 rfl rfl,rfl⟩;simp[AI.step,Opd.ev,v0,BB,CZ,CU,C8,a2,hdi]
  |2,_=>
   exact⟨_,Bg (v:= .R 2 0) rfl (by simp[PI.val,Opd.ev,b4,BB,D.part,D.copy]),J.push EO 2 61 rfl rfl,by simp[BB,CZ,CU,C8]⟩
  |3,_=>
   have v2:AK e 61= .R 2 0:=J.1 2 61 rfl (hdep 2 Ah) (by intro c hc;simp[EW]at hc);have d5:d 5=false:=hup 5 Ah Ah;have d7:d 7=false:=hup 7 Ah Ah;have hF:=M9 x.party hx.1 (BB N O f st U cl W Z y3 x G ds d) 2 (Aj x.num++(Aj x.den++G)) (by simp[BB,D0,CZ,hdi,d5,d7]);exact⟨_,Cx (k:=62) (r:=(x.party:D)) rfl (by simpa[A9,D.arg,Opd.ev,v2]using hF),J.push EO 3 62 rfl rfl,by simp[D0,BB,CZ,CU,C8,hdi,d5,d7]⟩
  |4,_=>
   exact⟨_,Bg (v:= .R 2 0) rfl (by simp[PI.val,Opd.ev,b4,BB,D.part,D.copy]),J.push EO 4 63 rfl rfl,by simp[BB,CZ,CU,C8]⟩
  |5,_=>
   have v4:AK e 63= .R 2 0:=J.1 4 63 rfl (hdep 4 Ah) (by intro c hc;simp[EW]at hc);have d7:d 7=false:=hup 7 Ah Ah;have d3:d 3=true:=hdep 3 Ah;have hF:=M9 x.num hx.2.1 (BB N O f st U cl W Z y3 x G ds d) 2 (Aj x.den++G) (by simp[BB,D0,CZ,hdi,d7,d3]);exact⟨_,Cx (k:=64) (r:=(x.num:D)) rfl (by simpa[A9,D.arg,Opd.ev,v4]using hF),J.push EO 5 64 rfl rfl,by simp[D0,BB,CZ,CU,C8,hdi,d7,d3]⟩
  |6,_=>
   exact⟨_,Bg (v:= .R 2 0) rfl (by simp[PI.val,Opd.ev,b4,BB,D.part,D.copy]),J.push EO 6 65 rfl rfl,by simp[BB,CZ,CU,C8]⟩
  |7,_=>
   have v6:AK e 65= .R 2 0:=J.1 6 65 rfl (hdep 6 Ah) (by intro c hc;simp[EW]at hc);have d3:d 3=true:=hdep 3 Ah;have d5:d 5=true:=hdep 5 Ah;have hF:=M9 x.den hx.2.2 (BB N O f st U cl W Z y3 x G ds d) 2 (G) (by simp[BB,D0,CZ,hdi,d5]);exact⟨_,Cx (k:=66) (r:=(x.den:D)) rfl (by simpa[A9,D.arg,Opd.ev,v6]using hF),J.push EO 7 66 rfl rfl,by simp[D0,BB,CZ,CU,C8,hdi,d5]⟩
  |8,_=>
   have v5:AK e 64=(x.num:D):=J.1 5 64 rfl (hdep 5 Ah) (by intro c hc;simp[EW]at hc);have v7:AK e 66=(x.den:D):=J.1 7 66 rfl (hdep 7 Ah) (by intro c hc;simp[EW]at hc);exact⟨_,Bg (v:= .agg [(x.num:D),(x.den:D)]) rfl (by simp[PI.val,Fu,Opd.ev,v5,v7,D.cells?,D.copy,AQ]),J.push EO 8 67 rfl rfl,by simp[BB,CZ,CU,C8]⟩
  |9,_=>
   have v3:AK e 62=(x.party:D):=J.1 3 62 rfl (hdep 3 Ah) (by intro c hc;simp[EW]at hc);have v8:AK e 67= .agg [(x.num:D),(x.den:D)]:=J.1 8 67 rfl (hdep 8 Ah) (by intro c hc;simp[EW]at hc);exact⟨_,Bg (v:= .agg [(x.party:D),(x.num:D),(x.den:D)]) rfl (by simp[PI.val,Fu,Opd.ev,v3,v8,D.cells?,D.copy,AQ]),J.push EO 9 68 rfl rfl,by simp[BB,CZ,CU,C8]⟩
  |10,_=>
   have v9:AK e 68= .agg [(x.party:D),(x.num:D),(x.den:D)]:=J.1 9 68 rfl (hdep 9 Ah) (by intro c hc;simp[EW]at hc);refine⟨_,Cw (s1:=⟨(69,.W 246 3 [x.V])::e,BB N O f st U cl W Z y3 x G ds d⟩) rfl ?_,J.push EO 10 69 rfl rfl,?_⟩
   .simp[AI.step,I1,D.toV,Opd.ev,v9,Own.V,D.vs?,D.v?,D.copy,V.cells]
   .simp[BB,CZ,CU,C8]
  |11,_=>
   have v1:AK e 60= .W 246 3 ds:=J.1 1 60 rfl (hdep 1 Ah) (by intro c hc;simp[EW]at hc;subst hc;exact hdi);have a7:AK e 69= .W 246 3 [x.V]:=J.1 10 69 rfl (hdep 10 Ah) (by intro c hc;simp[EW]at hc);have a1:AV (ds.length+1) 24=true:=by simp[AV];omega
   refine⟨_,Cw (s1:=⟨(70,.W 246 3 (ds++[x.V]))::(60,(ds:D))::e,BB N O f st U cl W Z y3 x G ds d⟩) rfl ?_,J.pushW EO 11 70 1 60 rfl rfl rfl rfl,?_⟩
   .simp[AI.step,Opd.ev,Opd.clear,v1,a7,EC,D.toV,D.copy,Own.V,V.cells,a1,D.v?]
   .simp[BB,CZ,CU,C8]
  |12,_=>
   exact⟨_,Bg (v:= .R 4 6) rfl (by simp[PI.val,Opd.ev,b6]),J.push EO 12 71 rfl rfl,by simp[BB,CZ,CU,C8]⟩
  |13,_=>
   have a8:AK e 70= .W 246 3 (ds++[x.V]):=J.1 11 70 rfl (hdep 11 Ah) (by intro c hc;simp[EW]at hc;subst hc;exact hdi);have b0:AK e 71= .R 4 6:=J.1 12 71 rfl (hdep 12 Ah) (by intro c hc;simp[EW]at hc);refine⟨_,Cw (s1:=⟨(70,.any)::e,BB N O f st U cl W Z y3 x G ds (C8 d 13)⟩) rfl ?_,J.last EO 13 11 70 rfl rfl rfl,rfl⟩;simp[AI.step,Opd.ev,a8,b0,BB,CZ,CU,C8,D.copy]
  |i+14,hi=>omega
 .rintro d ⟨e,h⟩ hall ⟨J,hh⟩;simp only at J hh;subst hh;have e1:BB N O f st U cl W Z y3 x G ds d=BB N O f st U cl W Z y3 x G ds (λ_=>true):=by simp[BB,CZ,CU,hall 7 Ah,hall 13 Ah]
  rw[e1];exact hK e J.2
 .refine⟨⟨λj k' hj hd=>?_,a6⟩,rfl⟩;simp only[decide_eq_true_eq]at hd;have:Oe[j]?=none:=sU (by simpa[Oe]using hd);rw[this]at hj;cases hj
def UX:AT:=match ll 113 2 with| .seq _ (.seq _ (.seq (.block _ (.regA _ _ _ t)) _))=>t|_=> .done
def Vw:List (List Nat):=match ll 113 2 with| .seq _ (.seq _ (.seq (.block _ (.regA _ _ c _)) _))=>c|_=>[]
def T6:(lG 113 2)= .seq (.reg (oG 113 18) [1,2,4,6,74,75,76]) (.seq (.cond (.t 76 false) .skip (.exit 4)) (.seq (.block 5 (.regA (oG 113 19) [1,2,4,6,74,75] Vw UX)) (.reg (oG 113 20) [1,2,4,6,74,75]))):=(BG 113 2 :)
def Sw:List GI:=lo 113 19
def Xm:oG 113 19=Sw:=(AB 113 19 :)
def TC:UX.chk Sw Vw (List.range 15)=true:=HR
def Od:List (Option Nat):=[some 77,some 78,some 79,some 80,some 81,some 82,some 83,some 84,some 85,some 86,some 87,some 88,some 89,some 90,none]
def EB:List (Option Nat):=[none,some 12,none,none,none,none,none,none,none,none,none,none,some 14,none,none]
def HK:List Nat:=[1,2,4,6,74,75]
def D9:XD Od HK=true:=HR
def ZS(x:Lic)(ds:List V)(j:Nat):D:=
 match j with
 |0=> .R 4 7
 |1=> .W 247 4 ds
 |2=> .R 2 0
 |3=> .v (.int .i64 x.fr)
 |4=> .R 2 0
 |5=> .v (.int .i64 x.to)
 |6=> .R 2 0
 |7=> .v (.int .i64 x.fst)
 |8=> .R 2 0
 |9=> .v (.int .i64 x.lst)
 |10=> .agg [.v (.int .i64 x.fr),.v (.int .i64 x.to),.v (.int .i64 x.fst),.v (.int .i64 x.lst)]
 |11=> .W 247 4 [x.V]
 |12=> .W 247 4 (ds++[x.V])
 |13=> .R 4 7
 |_=> .any
def CH(d:Nat->Bool):Nat:=if d 9 then 4 else (if d 7 then 3 else (if d 5 then 2 else (if d 3 then 1 else (0))))
def DP(x:Lic)(rest:List Int):Nat->List Int
 |0=>Aj x.fr++(Aj x.to++(Aj x.fst++(Aj x.lst++rest)))
 |1=>Aj x.to++(Aj x.fst++(Aj x.lst++rest))
 |2=>Aj x.fst++(Aj x.lst++rest)
 |3=>Aj x.lst++rest
 |_=>rest
def CI(x:Lic)(ds:List V)(d:Nat->Bool):D:=if d 14 then .W 247 4 (ds++[x.V]) else if d 1 then .v (.list ds) else .W 247 4 ds
def Ay(C0 C1:Row)(f st fo cl y1 y2 y3:D)(x:Lic)(rest:List Int)(ds:List V)(d:Nat->Bool):List Row:=
 [C0,C1,DO (DP x rest (CH d)),.cells [.R 2 0],.cells [f,st,fo,cl,y1,y2,y3,CI x ds d]]
def Mr(n k:Int)(j:Nat):D:=
 match j with
 |1=> .R 0 0
 |2=> .R 1 0
 |4=> .R 3 0
 |6=> .R 4 0
 |74=> .v (.int .i64 n)
 |75=> .v (.int .i64 k)
 |_=> .any
def gX(N O:Row)(f st U cl W Z y3:D)(x:Lic)(hx:x.ok)(G:List Int)(ds:List V)(b2:ds.length<=2^30)(n k:Int)(hK:∀e,(∀k'∈HK,AK e k'=Mr n k k')->K ⟨e,Ay N O f st U cl W Z y3 x G ds (λ_=>true)⟩)(se:CC)(a6:∀k'∈HK,AK se k'=Mr n k k'):
  UX.ok Tryz.prog BK (oG 113 19) K ⟨se,Ay N O f st U cl W Z y3 x G ds (λj=>decide (15<=j))⟩:=by
 rw[Xm];refine KC (λd s=>EnvD Od EB HK (ZS x ds) (Mr n k) d s.e/\s.h=Ay N O f st U cl W Z y3 x G ds d) TC ?_ ?_ ?_
 .rintro d i ⟨e,h⟩ hi hdi hdep hup ⟨J,hh⟩;simp only at J hh;subst hh;have b4:AK e 4= .R 3 0:=J.2 4 (by simp[HK]);have b6:AK e 6= .R 4 0:=J.2 6 (by simp[HK])
  match i,hi with
  |0,_=>
   exact⟨_,Bg (v:= .R 4 7) rfl (by simp[PI.val,Opd.ev,b6]),J.push D9 0 77 rfl rfl,by simp[Ay,CH,CI,C8]⟩
  |1,_=>
   have v0:AK e 77= .R 4 7:=J.1 0 77 rfl (hdep 0 Ah) (by intro c hc;simp[EB]at hc);have a2:d 14=false:=hup 14 Ah Ah;refine⟨_,Cw (s1:=⟨(78,.W 247 4 ds)::e,Ay N O f st U cl W Z y3 x G ds (C8 d 1)⟩) rfl ?_,J.push D9 1 78 rfl rfl,rfl⟩;simp[AI.step,Opd.ev,v0,Ay,CH,CI,C8,a2,hdi]
  |2,_=>
   exact⟨_,Bg (v:= .R 2 0) rfl (by simp[PI.val,Opd.ev,b4,Ay,D.part,D.copy]),J.push D9 2 79 rfl rfl,by simp[Ay,CH,CI,C8]⟩
  |3,_=>
   have v2:AK e 79= .R 2 0:=J.1 2 79 rfl (hdep 2 Ah) (by intro c hc;simp[EB]at hc);have d5:d 5=false:=hup 5 Ah Ah;have d7:d 7=false:=hup 7 Ah Ah;have d9:d 9=false:=hup 9 Ah Ah;have hF:=M9 x.fr hx.1 (Ay N O f st U cl W Z y3 x G ds d) 2 (Aj x.to++(Aj x.fst++(Aj x.lst++G))) (by simp[Ay,DP,CH,hdi,d5,d7,d9]);exact⟨_,Cx (k:=80) (r:=(x.fr:D)) rfl (by simpa[A9,D.arg,Opd.ev,v2]using hF),J.push D9 3 80 rfl rfl,by simp[DP,Ay,CH,CI,C8,hdi,d5,d7,d9]⟩
  |4,_=>
   exact⟨_,Bg (v:= .R 2 0) rfl (by simp[PI.val,Opd.ev,b4,Ay,D.part,D.copy]),J.push D9 4 81 rfl rfl,by simp[Ay,CH,CI,C8]⟩
  |5,_=>
   have v4:AK e 81= .R 2 0:=J.1 4 81 rfl (hdep 4 Ah) (by intro c hc;simp[EB]at hc);have d7:d 7=false:=hup 7 Ah Ah;have d9:d 9=false:=hup 9 Ah Ah;have d3:d 3=true:=hdep 3 Ah;have hF:=M9 x.to hx.2.1 (Ay N O f st U cl W Z y3 x G ds d) 2 (Aj x.fst++(Aj x.lst++G)) (by simp[Ay,DP,CH,hdi,d7,d9,d3]);exact⟨_,Cx (k:=82) (r:=(x.to:D)) rfl (by simpa[A9,D.arg,Opd.ev,v4]using hF),J.push D9 5 82 rfl rfl,by simp[DP,Ay,CH,CI,C8,hdi,d7,d9,d3]⟩
  |6,_=>
   exact⟨_,Bg (v:= .R 2 0) rfl (by simp[PI.val,Opd.ev,b4,Ay,D.part,D.copy]),J.push D9 6 83 rfl rfl,by simp[Ay,CH,CI,C8]⟩
  |7,_=>
   have v6:AK e 83= .R 2 0:=J.1 6 83 rfl (hdep 6 Ah) (by intro c hc;simp[EB]at hc);have d9:d 9=false:=hup 9 Ah Ah;have d3:d 3=true:=hdep 3 Ah;have d5:d 5=true:=hdep 5 Ah;have hF:=M9 x.fst hx.2.2.1 (Ay N O f st U cl W Z y3 x G ds d) 2 (Aj x.lst++G) (by simp[Ay,DP,CH,hdi,d9,d5]);exact⟨_,Cx (k:=84) (r:=(x.fst:D)) rfl (by simpa[A9,D.arg,Opd.ev,v6]using hF),J.push D9 7 84 rfl rfl,by simp[DP,Ay,CH,CI,C8,hdi,d9,d5]⟩
  |8,_=>
   exact⟨_,Bg (v:= .R 2 0) rfl (by simp[PI.val,Opd.ev,b4,Ay,D.part,D.copy]),J.push D9 8 85 rfl rfl,by simp[Ay,CH,CI,C8]⟩
  |9,_=>
   have v8:AK e 85= .R 2 0:=J.1 8 85 rfl (hdep 8 Ah) (by intro c hc;simp[EB]at hc);have d3:d 3=true:=hdep 3 Ah;have d5:d 5=true:=hdep 5 Ah;have d7:d 7=true:=hdep 7 Ah;have hF:=M9 x.lst hx.2.2.2 (Ay N O f st U cl W Z y3 x G ds d) 2 (G) (by simp[Ay,DP,CH,hdi,d7]);exact⟨_,Cx (k:=86) (r:=(x.lst:D)) rfl (by simpa[A9,D.arg,Opd.ev,v8]using hF),J.push D9 9 86 rfl rfl,by simp[DP,Ay,CH,CI,C8,hdi,d7]⟩
  |10,_=>
   have v3:AK e 80=(x.fr:D):=J.1 3 80 rfl (hdep 3 Ah) (by intro c hc;simp[EB]at hc);have v5:AK e 82=(x.to:D):=J.1 5 82 rfl (hdep 5 Ah) (by intro c hc;simp[EB]at hc);have v7:AK e 84=(x.fst:D):=J.1 7 84 rfl (hdep 7 Ah) (by intro c hc;simp[EB]at hc);have v9:AK e 86=(x.lst:D):=J.1 9 86 rfl (hdep 9 Ah) (by intro c hc;simp[EB]at hc);exact⟨_,Bg (v:= .agg [(x.fr:D),(x.to:D),(x.fst:D),(x.lst:D)]) rfl (by simp[PI.val,Fu,Opd.ev,v3,v5,v7,v9,D.cells?,D.copy,AQ]),J.push D9 10 87 rfl rfl,by simp[Ay,CH,CI,C8]⟩
  |11,_=>
   have a7:AK e 87= .agg [(x.fr:D),(x.to:D),(x.fst:D),(x.lst:D)]:=J.1 10 87 rfl (hdep 10 Ah) (by intro c hc;simp[EB]at hc);refine⟨_,Cw (s1:=⟨(88,.W 247 4 [x.V])::e,Ay N O f st U cl W Z y3 x G ds d⟩) rfl ?_,J.push D9 11 88 rfl rfl,?_⟩
   .simp[AI.step,I1,D.toV,Opd.ev,a7,Lic.V,D.vs?,D.v?,D.copy,V.cells]
   .simp[Ay,CH,CI,C8]
  |12,_=>
   have v1:AK e 78= .W 247 4 ds:=J.1 1 78 rfl (hdep 1 Ah) (by intro c hc;simp[EB]at hc;subst hc;exact hdi);have a8:AK e 88= .W 247 4 [x.V]:=J.1 11 88 rfl (hdep 11 Ah) (by intro c hc;simp[EB]at hc);have a1:AV (ds.length+1) 32=true:=by simp[AV];omega
   refine⟨_,Cw (s1:=⟨(89,.W 247 4 (ds++[x.V]))::(78,(ds:D))::e,Ay N O f st U cl W Z y3 x G ds d⟩) rfl ?_,J.pushW D9 12 89 1 78 rfl rfl rfl rfl,?_⟩
   .simp[AI.step,Opd.ev,Opd.clear,v1,a8,EC,D.toV,D.copy,Lic.V,V.cells,a1,D.v?]
   .simp[Ay,CH,CI,C8]
  |13,_=>
   exact⟨_,Bg (v:= .R 4 7) rfl (by simp[PI.val,Opd.ev,b6]),J.push D9 13 90 rfl rfl,by simp[Ay,CH,CI,C8]⟩
  |14,_=>
   have b0:AK e 89= .W 247 4 (ds++[x.V]):=J.1 12 89 rfl (hdep 12 Ah) (by intro c hc;simp[EB]at hc;subst hc;exact hdi);have b1:AK e 90= .R 4 7:=J.1 13 90 rfl (hdep 13 Ah) (by intro c hc;simp[EB]at hc);refine⟨_,Cw (s1:=⟨(89,.any)::e,Ay N O f st U cl W Z y3 x G ds (C8 d 14)⟩) rfl ?_,J.last D9 14 12 89 rfl rfl rfl,rfl⟩;simp[AI.step,Opd.ev,b0,b1,Ay,CH,CI,C8,D.copy]
  |i+15,hi=>omega
 .rintro d ⟨e,h⟩ hall ⟨J,hh⟩;simp only at J hh;subst hh;have e1:Ay N O f st U cl W Z y3 x G ds d=Ay N O f st U cl W Z y3 x G ds (λ_=>true):=by simp[Ay,CH,CI,hall 9 Ah,hall 14 Ah]
  rw[e1];exact hK e J.2
 .refine⟨⟨λj k' hj hd=>?_,a6⟩,rfl⟩;simp only[decide_eq_true_eq]at hd;have:Od[j]?=none:=sU (by simpa[Od]using hd);rw[this]at hj;cases hj
end
section
def Zq(h:List Row)(W N J:Nat)(bs:List V)(n:Int)(G:List Int)(h4:h[W]?=some (.cells [.R J 0]))(Z:h[N]?=some (.cells [bs]))(hr:h[J]?=some (DO (Aj n++G)))(hn:i64 n)(h0:0<=n)(hl:n<=bs.length)(U:N≠J):
  FX 204 [.R W 0,.R N 0] h [(n:D)] (h.set J (DO G)):=by
 refine EH 204 ?_;have q:=M9 n hn h J G hr;have O:(h.set J (DO G))[N]?=some (.cells [bs]):=by rw[sG (Ne.symm U)];exact Z
 have m1:¬n <0:=AE;have m2:¬(bs.length:Int) <n:=AE;simp only[As 204,AH,AJ,AB 204 0,AZ];simp;rw[Bf];refine Bc _ (λs hs=>⟨s,.inl rfl,hs⟩) ?_;simp only[AB 204 1];simp[h4,Z]
 constructor
 .refine⟨_,_,q,?_⟩;simp[O,m1,m2,AA,AW 204]
 .refine⟨_,_,q,?_⟩;simp[m1,m2,AA,AW 204]
def UW:AT:=match la 113 with| .seq _ (.seq _ (.seq _ (.seq (.regA _ _ _ t) _)))=>t|_=> .done
def Vv:List (List Nat):=match la 113 with| .seq _ (.seq _ (.seq _ (.seq (.regA _ _ c _) _)))=>c|_=>[]
def ZK:AC:=match la 113 with| .seq _ (.seq _ (.seq _ (.seq _ t)))=>t|_=> .skip
def Xu:(gA 113)= .seq (.reg (oG 113 0) [1,2]) (.seq (.reg (oG 113 1) [1,2,4]) (.seq (.reg (oG 113 2) [1,2,4,5]) (.seq (.regA (oG 113 3) [1,2,4,5,6] Vv UW) ZK))):=(As 113 :)
def WD:List GI:=lo 113 3
def bC:oG 113 3=WD:=(AB 113 3 :)
def TB:UW.chk WD Vv (List.range 9)=true:=HR
def MN:List (Option Nat):=[some 14,some 15,some 16,some 17,some 18,some 19,some 20,some 6,none]
def GQ:List (Option Nat):=[none,none,none,none,none,none,none,none,none]
def JK:List Nat:=[1,2,4,5]
def G1:XD MN JK=true:=HR
def QX(r:Rgt):D:= .agg [.v (.int .i64 r.file),.v (.int .i64 r.state),.v (.int .i64 r.force),.nil 130 5,.nil 88 4,.nil 3 1,.nil 246 3,.nil 247 4]
def ZR(r:Rgt)(j:Nat):D:=
 match j with
 |0|2|4=> .R 2 0
 |1=> .v (.int .i64 r.file)
 |3=> .v (.int .i64 r.state)
 |5=> .v (.int .i64 r.force)
 |6=>QX r
 |7=> .R 4 0
 |_=> .any
def Dc(d:Nat->Bool):Nat:=if d 5 then 3 else (if d 3 then 2 else (if d 1 then 1 else 0))
def Fp(r:Rgt)(rest:List Int):Nat->List Int
 |0=>Aj r.file++(Aj r.state++(Aj r.force++rest))
 |1=>Aj r.state++(Aj r.force++rest)
 |2=>Aj r.force++rest
 |_=>rest
def EL(r:Rgt)(d:Nat->Bool):List Row:=
 if d 7 then (if d 8 then [.cells [.v (.int .i64 r.file),.v (.int .i64 r.state),.v (.int .i64 r.force),.W 130 5 [],.W 88 4 [],.W 3 1 [],.W 246 3 [],.W 247 4 []]]
  else [.cells [.v (.int .i64 0),.v (.int .i64 0),.v (.int .i64 0),.W 130 5 [],.W 88 4 [],.W 3 1 [],.W 246 3 [],.W 247 4 []]]) else []
def BN(C0 C1:Row)(r:Rgt)(rest:List Int)(d:Nat->Bool):List Row:=[C0,C1,DO (Fp r rest (Dc d)),.cells [.R 2 0]]++EL r d
def PQ(j:Nat):D:=
 match j with
 |1=> .R 0 0
 |2=> .R 1 0
 |4=> .R 3 0
 |5=> .func 204 [.R 3 0,.R 0 0]
 |_=> .any
variable {K:St->Prop}
def gW(N O:Row)(r:Rgt)(hr:r.ok)(G:List Int)(hK:∀e,(∀k'∈JK,AK e k'=PQ k')->AK e 6= .R 4 0->K ⟨e,BN N O r G (λ_=>true)⟩)(se:CC)(a1:∀k'∈JK,AK se k'=PQ k'):
  UW.ok Tryz.prog BK (oG 113 3) K ⟨se,BN N O r G (λj=>decide (9<=j))⟩:=by
 rw[bC];refine KC (λd s=>EnvD MN GQ JK (ZR r) PQ d s.e/\s.h=BN N O r G d) TB ?_ ?_ ?_
 .rintro d i ⟨e,h⟩ hi hdi hdep hup ⟨J,hh⟩;simp only at J hh;subst hh;have b4:AK e 4= .R 3 0:=J.2 4 (by simp[JK])
  match i,hi with
  |0,_=>
   exact⟨_,Bg (v:= .R 2 0) rfl (by simp[PI.val,Opd.ev,b4,BN,D.part,D.copy]),J.push G1 0 14 rfl rfl,by simp[BN,Dc,EL,C8]⟩
  |2,_=>
   exact⟨_,Bg (v:= .R 2 0) rfl (by simp[PI.val,Opd.ev,b4,BN,D.part,D.copy]),J.push G1 2 16 rfl rfl,by simp[BN,Dc,EL,C8]⟩
  |4,_=>
   exact⟨_,Bg (v:= .R 2 0) rfl (by simp[PI.val,Opd.ev,b4,BN,D.part,D.copy]),J.push G1 4 18 rfl rfl,by simp[BN,Dc,EL,C8]⟩
  |1,_=>
   have v0:AK e 14= .R 2 0:=J.1 0 14 rfl (hdep 0 Ah) (by intro c hc;simp[GQ]at hc);have U:d 3=false:=hup 3 Ah Ah;have W:d 5=false:=hup 5 Ah Ah;have Z:=M9 r.file hr.file (BN N O r G d) 2 (Aj r.state++(Aj r.force++G)) (by simp[BN,Fp,Dc,hdi,U,W]);exact⟨_,Cx (k:=15) (r:=(r.file:D)) rfl (by simpa[A9,D.arg,Opd.ev,v0]using Z),J.push G1 1 15 rfl rfl,by simp[Fp,BN,Dc,EL,C8,hdi,U,W]⟩
  |3,_=>
   have v2:AK e 16= .R 2 0:=J.1 2 16 rfl (hdep 2 Ah) (by intro c hc;simp[GQ]at hc);have W:d 5=false:=hup 5 Ah Ah;have d1:d 1=true:=hdep 1 Ah;have Z:=M9 r.state hr.state (BN N O r G d) 2 (Aj r.force++G) (by simp[BN,Fp,Dc,hdi,W,d1]);exact⟨_,Cx (k:=17) (r:=(r.state:D)) rfl (by simpa[A9,D.arg,Opd.ev,v2]using Z),J.push G1 3 17 rfl rfl,by simp[Fp,BN,Dc,EL,C8,hdi,W,d1]⟩
  |5,_=>
   have v4:AK e 18= .R 2 0:=J.1 4 18 rfl (hdep 4 Ah) (by intro c hc;simp[GQ]at hc);have d1:d 1=true:=hdep 1 Ah;have U:d 3=true:=hdep 3 Ah;have Z:=M9 r.force hr.force (BN N O r G d) 2 (G) (by simp[BN,Fp,Dc,hdi,U]);exact⟨_,Cx (k:=19) (r:=(r.force:D)) rfl (by simpa[A9,D.arg,Opd.ev,v4]using Z),J.push G1 5 19 rfl rfl,by simp[Fp,BN,Dc,EL,C8,hdi,U]⟩
  |6,_=>
   have v1:AK e 15=(r.file:D):=J.1 1 15 rfl (hdep 1 Ah) (by intro c hc;simp[GQ]at hc);have v3:AK e 17=(r.state:D):=J.1 3 17 rfl (hdep 3 Ah) (by intro c hc;simp[GQ]at hc);have v5:AK e 19=(r.force:D):=J.1 5 19 rfl (hdep 5 Ah) (by intro c hc;simp[GQ]at hc);exact⟨_,Bg (v:=QX r) rfl (by simp[PI.val,Fu,Opd.ev,v1,v3,v5,D.cells?,D.copy,AQ,QX]),J.push G1 6 20 rfl rfl,by simp[BN,Dc,EL,C8]⟩
  |7,_=>
   have d8:d 8=false:=hup 8 Ah Ah;refine⟨_,Cw (s1:=⟨(6,.R 4 0)::e,BN N O r G (C8 d 7)⟩) rfl ?_,J.push G1 7 6 rfl rfl,rfl⟩;simp[AI.step,BN,Dc,EL,C8,hdi,d8]
  |8,_=>
   have v6:AK e 20=QX r:=J.1 6 20 rfl (hdep 6 Ah) (by intro c hc;simp[GQ]at hc);have v7:AK e 6= .R 4 0:=J.1 7 6 rfl (hdep 7 Ah) (by intro c hc;simp[GQ]at hc);have d7:d 7=true:=hdep 7 Ah;refine⟨_,Cw (s1:=⟨e,BN N O r G (C8 d 8)⟩) rfl ?_,J.step G1 8 (λk hk=>by simp[MN]at hk) (λk _ _=>rfl),rfl⟩;simp[AI.step,Opd.ev,v6,v7,BN,Dc,EL,C8,hdi,d7,QX,D.copy,D.cells?,AQ,D.toRow]
  |i+9,hi=>omega
 .rintro d ⟨e,h⟩ hall ⟨J,hh⟩;simp only at J hh;subst hh;have e1:BN N O r G d=BN N O r G (λ_=>true):=by simp[BN,Dc,EL,hall 5 Ah,hall 7 Ah,hall 8 Ah]
  rw[e1];exact hK e J.2 (J.1 7 6 rfl (hall 7 Ah) (by intro c hc;simp[GQ]at hc))
 .refine⟨⟨λj k' hj hd=>?_,a1⟩,rfl⟩;simp only[decide_eq_true_eq]at hd;have:MN[j]?=none:=sU (by simpa[MN]using hd);rw[this]at hj;cases hj
end
def iG(O U:Row)(f st W cl y1 y2 y3:D)(G:List Int)(l:List Dat)(hl:∀x∈l,x.ok)(hn:l.length<=2^30):
  AX (.loop (lG 113 0)) (λe s=>e= .exit 0/\s=⟨[(1,.R 0 0),(2,.R 1 0),(4,.R 3 0),(5,.func 204 [.R 3 0,.R 0 0]),(6,.R 4 0),(33,(l.length:D)),(34,(l.length:D)),(35,(false:D))],[O,U,DO G,.cells [.R 2 0],.cells [f,st,W,cl,.W 88 4 (l.map Dat.V),y1,y2,y3]]⟩)
   ⟨[(1,.R 0 0),(2,.R 1 0),(4,.R 3 0),(5,.func 204 [.R 3 0,.R 0 0]),(6,.R 4 0),(33,(l.length:D)),(34,((0:Int):D))],[O,U,DO (l.flatMap Bn++G),.cells [.R 2 0],.cells [f,st,W,cl,.W 88 4 [],y1,y2,y3]]⟩:=by
 refine Ab l.length (λk=>⟨[(1,.R 0 0),(2,.R 1 0),(4,.R 3 0),(5,.func 204 [.R 3 0,.R 0 0]),(6,.R 4 0),(33,(l.length:D)),(34,(k:D))],[O,U,DO ((l.drop k).flatMap Bn++G),.cells [.R 2 0],.cells [f,st,W,cl,.W 88 4 ((l.take k).map Dat.V),y1,y2,y3]]⟩) Ac ?_;intro k hk;rw[T8];simp only[Zw,AB 113 9];by_cases Z:k <l.length
 .have hd:l.drop k=l[k]::l.drop (k+1):=tn Z;have hx:=hl _ (sy Z);have hw:=Bt k;have N:(l.map Dat.V).take (k+1)=(l.map Dat.V).take k++[Dat.V l[k]]:=by rw[<-sQ,<-sQ,tM Z,r9];rfl
  obtain⟨x,a1⟩:∃x,x=l[k]:=⟨_,rfl⟩;rw[<-a1]at hd hx N;simp[Z,AD];rw[Bf];refine Bc _ (λs hs=>⟨s,.inl rfl,hs⟩) ?_;have hX:(l.drop k).flatMap Bn++G=DQ x ((l.drop (k+1)).flatMap Bn++G) 0:=by rw[hd];simp[DQ,Bn]
  rw[hX];refine gZ O U f st W cl y1 y2 y3 x hx ((l.drop (k+1)).flatMap Bn++G) ((l.map Dat.V).take k) Dd l.length k (λe he=>?_) _ (by intro k' J;simp only[GS,rj,sK,or_false]at J;rcases J with rfl|rfl|rfl|rfl|rfl|rfl|rfl<;>rfl)
  have q:∀k'∈GS,AK e k'=OC l.length k k':=he;simp only[GS,vO,sK,false_implies,implies_true,and_true]at q;obtain⟨q0,q1,q2,q3,q4,q5,q6⟩:=q;simp only[q0,q1,q2,q3,q4,q5,q6,Bv,AB 113 11];simp[OC,hw,A8,Ca,DQ,Ci,N]
 .have:k=l.length:=AE;subst this;simp[AN]
def iF(O U:Row)(f st W cl y1 y2 y3:D)(G:List Int)(l:List Own)(hl:∀x∈l,x.ok)(hn:l.length<=2^30):
  AX (.loop (lG 113 1)) (λe s=>e= .exit 2/\s=⟨[(1,.R 0 0),(2,.R 1 0),(4,.R 3 0),(5,.func 204 [.R 3 0,.R 0 0]),(6,.R 4 0),(56,(l.length:D)),(57,(l.length:D)),(58,(false:D))],[O,U,DO G,.cells [.R 2 0],.cells [f,st,W,cl,y1,y2,.W 246 3 (l.map Own.V),y3]]⟩)
   ⟨[(1,.R 0 0),(2,.R 1 0),(4,.R 3 0),(5,.func 204 [.R 3 0,.R 0 0]),(6,.R 4 0),(56,(l.length:D)),(57,((0:Int):D))],[O,U,DO (l.flatMap Bl++G),.cells [.R 2 0],.cells [f,st,W,cl,y1,y2,.W 246 3 [],y3]]⟩:=by
 refine Ab l.length (λk=>⟨[(1,.R 0 0),(2,.R 1 0),(4,.R 3 0),(5,.func 204 [.R 3 0,.R 0 0]),(6,.R 4 0),(56,(l.length:D)),(57,(k:D))],[O,U,DO ((l.drop k).flatMap Bl++G),.cells [.R 2 0],.cells [f,st,W,cl,y1,y2,.W 246 3 ((l.take k).map Own.V),y3]]⟩) Ac ?_;intro k hk;rw[T7];simp only[Zw,AB 113 14];by_cases Z:k <l.length
 .have hd:l.drop k=l[k]::l.drop (k+1):=tn Z;have hx:=hl _ (sy Z);have hw:=Bt k;have N:(l.map Own.V).take (k+1)=(l.map Own.V).take k++[Own.V l[k]]:=by rw[<-sQ,<-sQ,tM Z,r9];rfl
  obtain⟨x,a1⟩:∃x,x=l[k]:=⟨_,rfl⟩;rw[<-a1]at hd hx N;simp[Z,AD];rw[Bf];refine Bc _ (λs hs=>⟨s,.inl rfl,hs⟩) ?_;have hX:(l.drop k).flatMap Bl++G=D0 x ((l.drop (k+1)).flatMap Bl++G) 0:=by rw[hd];simp[D0,Bl]
  rw[hX];refine gY O U f st W cl y1 y2 y3 x hx ((l.drop (k+1)).flatMap Bl++G) ((l.map Own.V).take k) Dd l.length k (λe he=>?_) _ (by intro k' J;simp only[HL,rj,sK,or_false]at J;rcases J with rfl|rfl|rfl|rfl|rfl|rfl|rfl<;>rfl)
  have q:∀k'∈HL,AK e k'=Ms l.length k k':=he;simp only[HL,vO,sK,false_implies,implies_true,and_true]at q;obtain⟨q0,q1,q2,q3,q4,q5,q6⟩:=q;simp only[q0,q1,q2,q3,q4,q5,q6,Bv,AB 113 16];simp[Ms,hw,BB,CZ,D0,CU,N]
 .have:k=l.length:=AE;subst this;simp[AN]
def iE(O U:Row)(f st W cl y1 y2 y3:D)(G:List Int)(l:List Lic)(hl:∀x∈l,x.ok)(hn:l.length<=2^30):
  AX (.loop (lG 113 2)) (λe s=>e= .exit 4/\s=⟨[(1,.R 0 0),(2,.R 1 0),(4,.R 3 0),(6,.R 4 0),(74,(l.length:D)),(75,(l.length:D)),(76,(false:D))],[O,U,DO G,.cells [.R 2 0],.cells [f,st,W,cl,y1,y2,y3,.W 247 4 (l.map Lic.V)]]⟩)
   ⟨[(1,.R 0 0),(2,.R 1 0),(4,.R 3 0),(6,.R 4 0),(74,(l.length:D)),(75,((0:Int):D))],[O,U,DO (l.flatMap Bm++G),.cells [.R 2 0],.cells [f,st,W,cl,y1,y2,y3,.W 247 4 []]]⟩:=by
 refine Ab l.length (λk=>⟨[(1,.R 0 0),(2,.R 1 0),(4,.R 3 0),(6,.R 4 0),(74,(l.length:D)),(75,(k:D))],[O,U,DO ((l.drop k).flatMap Bm++G),.cells [.R 2 0],.cells [f,st,W,cl,y1,y2,y3,.W 247 4 ((l.take k).map Lic.V)]]⟩) Ac ?_;intro k hk;rw[T6];simp only[Zw,AB 113 18];by_cases Z:k <l.length
 .have hd:l.drop k=l[k]::l.drop (k+1):=tn Z;have hx:=hl _ (sy Z);have hw:=Bt k;have N:(l.map Lic.V).take (k+1)=(l.map Lic.V).take k++[Lic.V l[k]]:=by rw[<-sQ,<-sQ,tM Z,r9];rfl
  obtain⟨x,a1⟩:∃x,x=l[k]:=⟨_,rfl⟩;rw[<-a1]at hd hx N;simp[Z,AD];rw[Bf];refine Bc _ (λs hs=>⟨s,.inl rfl,hs⟩) ?_;have hX:(l.drop k).flatMap Bm++G=DP x ((l.drop (k+1)).flatMap Bm++G) 0:=by rw[hd];simp[DP,Bm]
  rw[hX];refine gX O U f st W cl y1 y2 y3 x hx ((l.drop (k+1)).flatMap Bm++G) ((l.map Lic.V).take k) Dd l.length k (λe he=>?_) _ (by intro k' J;simp only[HK,rj,sK,or_false]at J;rcases J with rfl|rfl|rfl|rfl|rfl|rfl<;>rfl)
  have q:∀k'∈HK,AK e k'=Mr l.length k k':=he;simp only[HK,vO,sK,false_implies,implies_true,and_true]at q;obtain⟨q0,q1,q2,q3,q4,q5⟩:=q;simp only[q0,q1,q2,q3,q4,q5,Bv,AB 113 20];simp[Mr,hw,Ay,CH,DP,CI,N]
 .have:k=l.length:=AE;subst this;simp[AN]
theorem WE:ZK=(.seq (.reg (oG 113 4) [1,2,4,5,6,7,8]) (.seq (.seq (.reg (oG 113 5) [1,2,4,5,6,7,28]) (.cond (.t 28 false) (.seq (.reg (oG 113 6) [2,3]) .ret) .skip)) (.seq (.reg (oG 113 7) [1,2,4,5,6]) (.seq (.seq (.reg (oG 113 8) [1,2,4,5,6,33,34]) (.block 0 (.loop (lG 113 0)))) (.seq (.reg (oG 113 12) [1,2,4,5,6]) (.seq (.seq (.reg (oG 113 13) [1,2,4,5,6,56,57]) (.block 2 (.loop (lG 113 1)))) (.seq (.seq (.reg (oG 113 17) [1,2,4,6,74,75]) (.block 4 (.loop (lG 113 2)))) (.seq (.seq (.reg (oG 113 21) [1,2,6,94]) (.cond (.t 94 false) (.seq (.reg (oG 113 22) [2,3]) .ret) .skip)) (.seq (.seq (.reg (oG 113 23) [1,2,6,9,10]) (.seq (.reg (oG 113 24) [2,6,109]) (.cond (.t 109 false) (.seq (.reg (oG 113 25) [2,3]) .ret) .skip))) (.seq (.reg (oG 113 26) [2,3]) .ret)))))))))):=rfl
def Rm(x:Dat):1<=(Bn x).length:=by have:=IW 9 (Ip x.cl);simp only[Bn,re,Aj,Fk];omega
def Rk(x:Own):1<=(Bl x).length:=by have:=IW 9 (Ip x.party);simp only[Bl,re,Aj,Fk];omega
def Rl(x:Lic):1<=(Bm x).length:=by have:=IW 9 (Ip x.fr);simp only[Bm,re,Aj,Fk];omega
def Jw{α:Type}{f:α->List Int}(G:∀x,1<=(f x).length):∀l:List α,l.length<=(l.flatMap f).length
 |[]=>Ac
 |x::l=>by have:=G x;have:=Jw G l;simp only[r7,re,sF];omega
def nZ(r:Rgt)(O:r.ok)(hf:Ao r=true)(hz:CB r.claims=0)(a8:r.claims.length<=32)(hb:(A7 r).length<=2^39)(hB:∀x∈A7 r,0<=x/\x <256):PX 113 [AM .u8 (A7 r)] [r.V,((0:Int):V)]:=by
 refine BS 113 ?_;have U:=(ju r O).fsp;rw[hf,if_pos rfl,if_pos rfl]at U;have W:=(mX r.claims O.claims hz a8 O.enc).fsp;simp at U W;have c1:=Jw Rm r.dates;have c3:=Jw Rk r.owners;have c2:=Jw Rl r.lics;have c0:=Fc r.bad;have b5:=hb;simp only[A7,BR,BI,re]at b5;have hE:A7 r=Aj r.file++(Aj r.state++(Aj r.force++(BR (BM r.claims)++(Aj r.dates.length++(r.dates.flatMap Bn++(BI r.bad++(Aj r.owners.length++(r.owners.flatMap Bl++(Aj r.lics.length++r.lics.flatMap Bm))))))))):=by simp[A7]
 obtain⟨E,a7⟩:∃E,E=A7 r:=⟨_,rfl⟩;rw[<-a7]at hE hb hB ⊢;obtain⟨R5,h5⟩:∃R,R=Aj r.lics.length++r.lics.flatMap Bm:=⟨_,rfl⟩;obtain⟨R4,h4⟩:∃R,R=Aj r.owners.length++(r.owners.flatMap Bl++R5):=⟨_,rfl⟩;obtain⟨R3,h3⟩:∃R,R=BI r.bad++R4:=⟨_,rfl⟩;obtain⟨R2,h2⟩:∃R,R=Aj r.dates.length++(r.dates.flatMap Bn++R3):=⟨_,rfl⟩;obtain⟨Z,h1⟩:∃R,R=BR (BM r.claims)++R2:=⟨_,rfl⟩;have a6:E=Aj r.file++(Aj r.state++(Aj r.force++Z)):=by rw[hE,h1,h2,h3,h4,h5]
 simp only[Xu,AH,AJ,AB 113 0,AB 113 1,AB 113 2,Ad];simp;refine⟨_,_,(jv E AE _),?_⟩;simp[AQ];rw[Bf];refine Bc _ (λs hs=>⟨s,.inl rfl,hs⟩) ?_;obtain⟨G,N⟩:∃C,C=Row.cells [.v (AM .u8 E)]:=⟨_,rfl⟩;obtain⟨J,a2⟩:∃C,C=Row.cells [((0:Int):D),((0:Int):D),((0:Int):D),.W 130 5 [],.W 88 4 [],.W 3 1 [],.W 246 3 [],.W 247 4 []]:=⟨_,rfl⟩;rw[<-N,<-a2];have b3:([G,J,DO E,.cells [.R 2 0]]:List Row)=BN G J r Z (λj=>decide (9<=j)):=by rw[a6];rfl
 rw[b3];refine gW G J r O Z (λe he h6=>?_) _ (by intro k' b1;simp only[JK,rj,sK,or_false]at b1;rcases b1 with rfl|rfl|rfl|rfl<;>rfl)
 simp only[JK,vO,sK,false_implies,implies_true,and_true,PQ]at he;obtain⟨e1,e2,e4,e5⟩:=he;simp only[Bv,e1,e2,e4,e5,h6];have a1:BN G J r Z (λ_=>true)=[G,J,DO Z,.cells [.R 2 0],.cells [r.file,r.state,r.force,.W 130 5 [],.W 88 4 [],.W 3 1 [],.W 246 3 [],.W 247 4 []]]:=rfl;rw[a1,WE];simp only[Zw,AB 113 4];simp;refine⟨_,_,(ed (BM r.claims) _ 2 R2 (by rw[h2,h3,h4,h5];simp only[BI,re];omega) (by rw[h1];rfl)),?_⟩;simp;refine⟨_,_,W _,?_⟩;simp;simp only[AB 113 5];simp[AD];simp only[AB 113 7];simp[AQ,D.toRow];simp only[AB 113 8];simp;have b4:E.length=(Aj r.file).length+((Aj r.state).length+((Aj r.force).length+Z.length)):=by rw[a6];simp
 have l1:Z.length=(BR (BM r.claims)).length+R2.length:=by rw[h1];simp
 have l2:R2.length=(Aj r.dates.length).length+((r.dates.flatMap Bn).length+R3.length):=by rw[h2];simp[-List.length_flatMap]
 have l3:R3.length=(BI r.bad).length+R4.length:=by rw[h3];simp
 have l4:R4.length=(Aj r.owners.length).length+((r.owners.flatMap Bl).length+R5.length):=by rw[h4];simp[-List.length_flatMap]
 have l5:R5.length=(Aj r.lics.length).length+(r.lics.flatMap Bm).length:=by rw[h5];simp[-List.length_flatMap]
 have hld:=O.ld;have b9:=O.lo;have b2:=O.ll;have m1:=Zq [G,J,DO R2,.cells [.R 2 0],.cells [r.file,r.state,r.force,(r.claims.map Clm.V:D),.W 88 4 [],.W 3 1 [],.W 246 3 [],.W 247 4 []]] 3 0 2 (E.map (.int .u8)) r.dates.length (r.dates.flatMap Bn++R3) rfl (by rw[N];rfl) (by rw[h2];rfl) (by unfold i64;omega) AE (by rw[sD];omega) Ah;refine⟨_,_,m1,?_⟩;have hD:=iG G J (r.file:D) (r.state:D) (r.force:D) (r.claims.map Clm.V:D) (.W 3 1 []) (.W 246 3 []) (.W 247 4 []) R3 r.dates O.dates hld;refine Ew hD ?_;simp only[AB 113 12];simp;refine⟨_,_,(Z4 r.bad O.bad _ 2 R4 AE (by rw[h3];rfl)),?_⟩;simp;simp only[AB 113 13];simp;have m2:=Zq [G,J,DO R4,.cells [.R 2 0],.cells [r.file,r.state,r.force,(r.claims.map Clm.V:D),.W 88 4 (r.dates.map Dat.V),.W 3 1 (r.bad.map (.int .i64)),.W 246 3 [],.W 247 4 []]] 3 0 2 (E.map (.int .u8)) r.owners.length (r.owners.flatMap Bl++R5) rfl (by rw[N];rfl) (by rw[h4];rfl) (by unfold i64;omega) AE (by rw[sD];omega) Ah;refine⟨_,_,m2,?_⟩;have hO:=iF G J (r.file:D) (r.state:D) (r.force:D) (r.claims.map Clm.V:D) (.W 88 4 (r.dates.map Dat.V)) (.W 3 1 (r.bad.map (.int .i64))) (.W 247 4 []) R5 r.owners O.owners b9;refine Ew hO ?_;simp only[AB 113 17];simp;have m3:=Zq [G,J,DO R5,.cells [.R 2 0],.cells [r.file,r.state,r.force,(r.claims.map Clm.V:D),.W 88 4 (r.dates.map Dat.V),.W 3 1 (r.bad.map (.int .i64)),.W 246 3 (r.owners.map Own.V),.W 247 4 []]] 3 0 2 (E.map (.int .u8)) r.lics.length (r.lics.flatMap Bm++[]) rfl (by rw[N];rfl) (by rw[h5];simp) (by unfold i64;omega) AE (by rw[sD];omega) Ah;refine⟨_,_,m3,?_⟩;have hL:=iE G J (r.file:D) (r.state:D) (r.force:D) (r.claims.map Clm.V:D) (.W 88 4 (r.dates.map Dat.V)) (.W 3 1 (r.bad.map (.int .i64))) (.W 246 3 (r.owners.map Own.V)) [] r.lics O.lics b2;refine Ew hL ?_;simp only[AB 113 21];simp;have b0:=Z1 [G,J,DO [],.cells [.R 2 0],.cells [r.file,r.state,r.force,(r.claims.map Clm.V:D),.W 88 4 (r.dates.map Dat.V),.W 3 1 (r.bad.map (.int .i64)),.W 246 3 (r.owners.map Own.V),.W 247 4 (r.lics.map Lic.V)]] 2 rfl;refine⟨_,_,b0,?_⟩;simp;simp only[AB 113 23];simp[D.vs?,D.v?];have hV:r.V= .agg [(r.file:V),(r.state:V),(r.force:V),(r.claims.map Clm.V:V),(r.dates.map Dat.V:V),.list (r.bad.map (.int .i64)),(r.owners.map Own.V:V),(r.lics.map Lic.V:V)]:=rfl;rw[hV]at U ⊢;refine⟨_,_,U _,?_⟩;simp;simp only[AB 113 24];have b6:=HJ E hB;simp[N,<-a7,AM,b6];simp only[AB 113 26];simp[a2,AQ,D.toRow,D.vs?,D.v?,AA,AW 113,Cf]
def Q0(f:Nat->Th×Nat)(len:Nat)(dd:Int)(n at_:Nat):List Th×Nat:=if 1 <dd then DX f len n at_ else ([],at_)
def oH(l:List Int)(f:Nat->Th×Nat)(O:Int)(b0:1<=O/\O<=9)(hB:∀a,(f a).2<=a+100)(M:Nat)(hM:M<=10000)(hf:1 <O->∀a,a<=M+500->PX 60 [AM .i64 l,a,((6:Int):V),((O-1:Int):V)] [(f a).1.V,.int .i64 (f a).2])(G U:Nat)(hm:G<=3)(ha:U<=M+5)(R0:Row)(C W:D)(J0:List Row)(Q:AExit->St->Prop)(Z:List Th×Nat)(a6:Q0 f l.length O G U=Z)(hQ:∀e J,AK e 8= .R 0 0->AK e 10= .R 1 0->AK e 1=(Z.2:D)->Q (.exit 4) ⟨e,R0:: .cells [C,W,.W 58 3 (Z.1.map Th.V)]::J⟩):
  AX (.loop (lG 60 2)) Q ⟨[(0,.v (AM .i64 l)),(1,(U:D)),(2,((6:Int):D)),(3,(O:D)),(8,.R 0 0),(10,.R 1 0),(16,(G:D)),(17,((0:Nat):D))],R0:: .cells [C,W,.W 58 3 []]::J0⟩:=by
 refine Ag G (λk s=>∃(J:List Row)(a:Nat)(done:List Th),s=⟨[(0,.v (AM .i64 l)),(1,(a:D)),(2,((6:Int):D)),(3,(O:D)),(8,.R 0 0),(10,.R 1 0),(16,(G:D)),(17,(k:D))],
   R0:: .cells [C,W,.W 58 3 (done.map Th.V)]::J⟩/\a<=M+5+100*k/\done.length<=k/\(done++(Q0 f l.length O (G-k) a).1,(Q0 f l.length O (G-k) a).2)=Z) ⟨J0,U,[],Ac,AE,Ac,by simpa using a6⟩ ?_
 rintro k s hk ⟨J,a,done,rfl,ha,hd,hr⟩;have w1:IntKind.i64.wrap (O-1)=O-1:=AS AE AE;have w2:=Bt k;have N:Q0 f l.length O (G-k) a=([],a)->Q (.exit 4) ⟨[(0,.v (AM .i64 l)),(1,(a:D)),(2,((6:Int):D)),(3,(O:D)),(8,.R 0 0),(10,.R 1 0),(16,(G:D)),(17,(k:D)),(95,(false:D))],
   R0:: .cells [C,W,.W 58 3 (done.map Th.V)]::J⟩:=by
  intro h0;rw[h0]at hr;simp only[sk]at hr;subst hr;exact hQ _ J rfl rfl rfl
 simp only[Zw,BG 60 2,AB 60 20];simp[AM]at N ⊢;by_cases h1:k <G
 .have a7:(k:Int) <G:=AE;have e1:G-k=(G-(k+1))+1:=AE;by_cases h2:1 <O
  .by_cases h3:a <l.length
   .have a8:(a:Int) <l.length:=AE;have q:=(hf h2 a AE).fsp;have hb:=hB a;have a1:AV (done.length+1) 72=true:=by simp[AV];omega
    rw[e1,Q0,if_pos h2,DX,if_pos h3]at hr;generalize (f a).2=a2 at*;generalize (f a).1=p at*;obtain⟨pc,pv,pp⟩:=p;simp[AM,Th.V_eq]at q;simp[h1,h2,h3,AD];simp only[AB 60 22];simp[w1];refine⟨_,_,q _,?_⟩;simp[AQ];simp only[AB 60 23,AB 60 24,AB 60 21];simp[a1,w2];refine⟨_,a2,done++[Th.mk pc pv pp],⟨rfl,by simp[Th.V_eq,AM],rfl⟩,AE,by simp;omega,?_⟩;rw[<-hr,Q0,if_pos h2];simp
   .have h0:Q0 f l.length O (G-k) a=([],a):=by rw[e1,Q0,if_pos h2,DX,if_neg h3]
    simp[h1,h2,h3,AN];exact N h0
  .have h0:Q0 f l.length O (G-k) a=([],a):=by rw[Q0,if_neg h2]
   simp[h1,h2,AN];exact N h0
 .have h0:Q0 f l.length O (G-k) a=([],a):=by rw[show G-k=0 by omega,Q0];split<;>simp[DX]
  simp[h1,AN];exact⟨AE,N h0⟩
def oF(l:List Int)(hl:∀n∈l,i64 n)(G:Nat)(ha:G<=20000)(x2 x3:V)(R0:Row)(C:D)(J0:List Row)(Q:AExit->St->Prop)(hQ:∀J,Q (.exit 2) ⟨[(0,.v (AM .i64 l)),(1,((G+3:Nat):D)),(2,.v x2),(3,.v x3),(8,.R 0 0),(10,.R 1 0),(13,((3:Int):D)),(45,(false:D))],R0:: .cells [C,.W 171 3 ((Dv l G 3).map Val.V),.W 58 3 []]::J⟩):
  AX (.loop (lG 60 1)) Q ⟨[(0,.v (AM .i64 l)),(1,(G:D)),(2,.v x2),(3,.v x3),(8,.R 0 0),(10,.R 1 0),(13,((0:Nat):D))],R0:: .cells [C,.W 171 3 [],.W 58 3 []]::J0⟩:=by
 refine Ag 3 (λk s=>∃J:List Row,s=⟨[(0,.v (AM .i64 l)),(1,((G+k:Nat):D)),(2,.v x2),(3,.v x3),(8,.R 0 0),(10,.R 1 0),(13,(k:D))],R0:: .cells [C,.W 171 3 ((Dv l G k).map Val.V),.W 58 3 []]::J⟩) ⟨J0,by simp[Dv]⟩ ?_;rintro k s hk ⟨J,rfl⟩;simp only[Zw,BG 60 1,AB 60 10];simp[AM];by_cases h1:k <3
 .have U:(k:Int) <3:=AE;have w1:=Bt k;have w2:IntKind.i64.wrap (((G:Int)+k)+1)=G+(k+1):=by rw[AS AE AE];omega
  have q:=(SR l ((G+k:Nat):Int) 1048576 Ah).fsp;have O:=P4 l hl ((G+k:Nat):Int) 1048576;have hs:Dv l G (k+1)=Dv l G k++(match OQ l G k with|some x=>[x]|none=>[]):=by
   unfold Dv;rw[tF,List.filterMap_append]
   congr 1
   simp only[List.filterMap_cons,List.filterMap_nil];cases OQ l G k<;>rfl
  have a1:(Dv l G k).length<=k:=by have:=tx (OQ l G) (List.range k);simpa[Dv]using this
  have N:AV ((Dv l G k).length+1) 24=true:=by simp[AV];omega
  rw[hs];unfold OQ;simp only;generalize Dv l G k=L at*;have a2:=Ez l ((G+k:Nat):Int) 1048576 Ah;generalize Aq l ((G+k:Nat):Int) 1048576=n at*;have Z:0<=n.tdiv 3:=Int.tdiv_nonneg O Ah;have a8:n.tdiv 3<=n:=Int.tdiv_le_self _ O;have w3:IntKind.i64.wrap (n.tdiv 3)=n.tdiv 3:=AS AE AE;rw[w3];have a6:0<=(n.tdiv 3).tmod 8:=vK _ Z;have a7:(n.tdiv 3).tmod 8 <8:=ue _ Ah;simp[AM]at q;simp[U,AD];simp only[AB 60 12];simp;refine⟨_,_,q _,?_⟩;simp only[AB 60 13];by_cases h3:n.tmod 3=0
  .have:(n.tdiv 3).tmod 8=0\/(n.tdiv 3).tmod 8=1\/(n.tdiv 3).tmod 8=2\/(n.tdiv 3).tmod 8=3\/(n.tdiv 3).tmod 8=4\/(n.tdiv 3).tmod 8=5\/(n.tdiv 3).tmod 8=6\/(n.tdiv 3).tmod 8=7:=AE;rcases this with e|e|e|e|e|e|e|e<;>
    simp[h3,AB 60 14,w3,e,V.getI,AQ,AB 60 15,AB 60 16,AB 60 11,N,w1,w2,h1,Pj,Val.V]
  .simp[h3,AB 60 16,AB 60 11,w1,w2,h1]
 .have W:k=3:=AE;subst W;simp[AN];have:=hQ J;simpa[AM]using this
def oI(n:Int)(d0 d1 J:V)(R0:Row)(Q:AExit->St->Prop)(hQ:Q (.exit 0) ⟨[(0,.v d0),(1,.v d1),(2,((6:Int):D)),(3,.v J),(8,.R 0 0),(10,.R 1 0),(11,(n:D)),(12,((6:Int):D)),(28,(false:D))],[R0,.cells [.W 3 1 ((Kr n).map (.int .i64)),.W 171 3 [],.W 58 3 []]]⟩):
  AX (.loop (lG 60 0)) Q ⟨[(0,.v d0),(1,.v d1),(2,((6:Int):D)),(3,.v J),(8,.R 0 0),(10,.R 1 0),(11,(n:D)),(12,((0:Nat):D))],[R0,.cells [.W 3 1 [],.W 171 3 [],.W 58 3 []]]⟩:=by
 refine Ab 6 (λk=>⟨[(0,.v d0),(1,.v d1),(2,((6:Int):D)),(3,.v J),(8,.R 0 0),(10,.R 1 0),(11,(n:D)),(12,(k:D))],
  [R0,.cells [.W 3 1 ((((List.range k).filter λc=>(n.fdiv (2^(min c IntKind.i64.bits))).tmod 3==1).map λ(c:Nat)=>(c:Int)).map (.int .i64)),.W 171 3 [],.W 58 3 []]]⟩) Ac ?_
 intro k hk;simp only[Zw,BG 60 0,AB 60 5];simp;by_cases U:k <6
 .have N:(k:Int) <6:=AE;have Z:=Bt k;have t1:(k:Int).tmod 20=k:=Int.tmod_eq_of_lt AE AE;have w2:IntKind.u64.wrap (k:Int)=k:=BL AE AE;have hs:(List.range (k+1)).filter (λc=>(n.fdiv (2^(min c IntKind.i64.bits))).tmod 3==1)=(List.range k).filter (λc=>(n.fdiv (2^(min c IntKind.i64.bits))).tmod 3==1)++(if (n.fdiv (2^(min k IntKind.i64.bits))).tmod 3==1 then [k] else []):=by rw[tF,tW];simp only[uR,ug]
  have W:((List.range k).filter (λc=>(n.fdiv (2^(min c IntKind.i64.bits))).tmod 3==1)).length<=k:=by have:=sZ (λc=>(n.fdiv (2^(min c IntKind.i64.bits))).tmod 3==1) (List.range k);simpa using this
  rw[hs];generalize (List.range k).filter (λc=>(n.fdiv (2^(min c IntKind.i64.bits))).tmod 3==1)=L at*;have G:AV (L.length+1) 8=true:=by simp[AV];omega
  simp[N,AD];simp only[AB 60 7];simp[t1,w2];by_cases h2:(n.fdiv (2^(min k IntKind.i64.bits))).tmod 3=1
  .simp[h2,AB 60 8,G,AB 60 6,Z,U]
  .simp[h2,AB 60 6,Z,U]
 .have O:k=6:=AE;subst O;simp[AN];simpa[Kr]using hQ
def Zn(l:List Int)(hl:∀n∈l,i64 n)(f:Nat->Th×Nat)(N:Int)(a1:1<=N/\N<=9)(hB:∀a,(f a).2<=a+100)(M:Nat)(hM:M<=10000)(hf:1 <N->∀a,a<=M+500->PX 60 [AM .i64 l,a,((6:Int):V),((N-1:Int):V)] [(f a).1.V,.int .i64 (f a).2])(G:Nat)(ha:G<=M)(O:List Th×Nat)(U:Q0 f l.length N (Aq l ((G+4:Nat):Int) 4).toNat (G+5)=O):
  PX 60 [AM .i64 l,G,((6:Int):V),N] [(Th.mk (Kr (Aq l G 1048576)) (Dv l (G+1) 3) O.1).V,(O.2:V)]:=by
 refine BS 60 ?_;have q1:=(SR l G 1048576 Ah).fsp;have q2:=(SR l ((G+4:Nat):Int) 4 Ah).fsp;have a6:=P4 l hl ((G+4:Nat):Int) 4;have a2:=QI l ((G+4:Nat):Int);have hm:((Aq l ((G+4:Nat):Int) 4).toNat:Int)=Aq l ((G+4:Nat):Int) 4:=vL a6;have w1:IntKind.i64.wrap ((G:Int)+1)=(G+1:Nat):=by rw[AS AE AE];omega
 have w2:IntKind.i64.wrap ((G:Int)+1+3+1)=(G+5:Nat):=by rw[AS AE AE];omega
 have hc:=λR0 Q=>oI (Aq l G 1048576) (AM .i64 l) ((G+1:Nat):V) (N:V) R0 Q;have hv:=λR0 C J Q=>oF l hl (G+1) AE ((6:Int):V) (N:V) R0 C J Q;have hp:=λR0 C W J Q=>oH l f N a1 hB M hM hf (Aq l ((G+4:Nat):Int) 4).toNat (G+5) a2 AE R0 C W J Q O U;rw[hm]at hp;generalize Kr (Aq l G 1048576)=C at*;generalize Aq l ((G+4:Nat):Int) 4=a7 at*;generalize Aq l G 1048576=n at*;generalize Dv l (G+1) 3=W at*;simp[AM]at q1 q2 hc hv hp;simp only[As 60,AH,AJ,AY,AB 60 0,AB 60 1,AB 60 2,Ad];simp[AM,AQ];refine⟨_,_,q1 _,?_⟩;simp[AB 60 3,AB 60 4,w1];refine hc _ _ ?_;simp[AB 60 9];refine hv _ _ _ _ ?_;intro J;simp[AB 60 17];have e4:((G:Int)+1+3)=(G:Int)+4:=AE;rw[e4];refine⟨_,_,q2 _,?_⟩;simp[AB 60 18,AB 60 19];rw[e4]at w2;simp at w2;rw[w2];refine hp _ _ _ _ _ ?_;intro e J' h8 Z h1;simp[AB 60 25,h8,Z,h1,AQ,AA,AW 60,Th.V_eq,AM,D.vs?,D.v?]
def UU(l:List Int)(d:Nat)(hd:d<=2)(a:Nat):(Ho l d a).2<=a+100:=by have:=UT l d a;have h2:4^d<=4^2:=uX Ah hd;have G:(4:Nat)^2=16:=Ah;omega
def dG(l:List Int)(N:∀n∈l,i64 n)(G:Nat)(J:G<=1500):PX 60 [AM .i64 l,G,((6:Int):V),((1:Int):V)] [(Ho l 0 G).1.V,.int .i64 (Ho l 0 G).2]:=
 Zn l N (Ho l 0) 1 Ah (UU l 0 Ah) 1500 Ah (λh=>AE) G J ([],G+5) (by rw[Q0,if_neg Ah])
def dF(l:List Int)(J:∀n∈l,i64 n)(G:Nat)(N:G<=1000):PX 60 [AM .i64 l,G,((6:Int):V),((2:Int):V)] [(Ho l 1 G).1.V,.int .i64 (Ho l 1 G).2]:=
 Zn l J (Ho l 0) 2 Ah (UU l 0 Ah) 1000 Ah (λ_ a h=>dG l J a h) G N _ (by rw[Q0,if_pos Ah])
def dE(l:List Int)(J:∀n∈l,i64 n)(G:Nat)(N:G<=500):PX 60 [AM .i64 l,G,((6:Int):V),((3:Int):V)] [(Ho l 2 G).1.V,.int .i64 (Ho l 2 G).2]:=
 Zn l J (Ho l 1) 3 Ah (UU l 1 Ah) 500 Ah (λ_ a h=>dF l J a h) G N _ (by rw[Q0,if_pos Ah])
def B0(l:List Int):Th:=(Ho l 2 0).1
def qp(l:List Int)(G:∀n∈l,i64 n):PX 21 [AM .i64 l,((6:Int):V),((3:Int):V)] [(B0 l).V]:=by refine BS 21 ?_;have q:=(dE l G 0 Ah).fsp;unfold B0;generalize (Ho l 2 0).2=m at*;generalize (Ho l 2 0).1=t at*;obtain⟨cs,vs,ps⟩:=t;simp[AM,Th.V_eq]at q;simp only[As 21,AH,AJ,AB 21 0,AB 21 1,Ad];simp[AM,Th.V_eq];refine⟨_,_,q _,?_⟩;simp[AQ,AB 21 2,AA,AW 21,D.vs?,D.v?]
def fK(r:Rgt)(a1:∀d∈r.dates,d.ok)(hn:r.dates.length<=2^30)(Y:List Int)(hY:Y.length<=2^43)(J:List Row):
  AX (.loop (lG 54 0)) (λe s=>e= .exit 0/\AK s.e 1= .R 0 0/\AK s.e 7= .W 5 1 ((Y++r.dates.flatMap Bn).map (.int .u8))/\∃W,s.h=r.row::W)
   ⟨[(1,.R 0 0),(7,.W 5 1 (Y.map (.int .u8))),(8,((0:Int):D))],r.row::J⟩:=by
 refine Ag r.dates.length (λk s=>s.e=[(1,.R 0 0),(7,.W 5 1 ((Y++(r.dates.take k).flatMap Bn).map (.int .u8))),(8,(k:D))]/\∃W,s.h=r.row::W) ⟨Ac,J,Ac⟩ ?_;rintro k ⟨se,sh⟩ hk ⟨he,W,hh⟩;simp only at he hh;subst he hh;simp only[Zw,BG 54 0,AB 54 9];simp[Rgt.row];by_cases N:k <r.dates.length
 .obtain⟨x,O⟩:∃x,r.dates[k]?=some x:=⟨_,rW N⟩;have a2:r.dates[k]=x:=(rZ.1 O).2;have hx:=a1 x (rY O);have hw:=Bt k;have a7:=DL Es (r.dates.take k);have ht:(r.dates.take k).length=k:=by simp;omega
  have e:(r.dates.take (k+1)).flatMap Bn=(r.dates.take k).flatMap Bn++Bn x:=by rw[Bk N,a2]
  have:=Al x.cl;have:=Al x.ix;have:=Al x.day;have:=Al x.file;obtain⟨X,Z⟩:∃X,Y++(r.dates.take k).flatMap Bn=X:=⟨_,rfl⟩;have a6:X.length<=2^44:=by rw[<-Z,re];omega
  have q0:=Iq (X) x.cl hx.1 (by first|omega|(simp only[re];omega))
  try simp at q0
  have q1:=Iq (X++Aj x.cl) x.ix hx.2.1 (by first|omega|(simp only[re];omega))
  try simp at q1
  have q2:=Iq (X++Aj x.cl++Aj x.ix) x.day hx.2.2.1 (by first|omega|(simp only[re];omega))
  try simp at q2
  have q3:=Iq (X++Aj x.cl++Aj x.ix++Aj x.day) x.file hx.2.2.2 (by first|omega|(simp only[re];omega))
  try simp at q3
  have G:(Y++(r.dates.take (k+1)).flatMap Bn).map (V.int .u8)=(X++Aj x.cl++Aj x.ix++Aj x.day++Aj x.file).map (V.int .u8):=by rw[e,<-rn,Z];simp[Bn]
  have U:Y.map (V.int .u8)++((r.dates.take k).flatMap Bn).map (V.int .u8)=X.map (V.int .u8):=by rw[<-Z,r9]
  rw[CF,AD];simp only[AB 54 11];simp[O,Dat.V,AQ,Aa];simp only[AB 54 12];simp
  try simp only[r9]at U
  try rw[U]
  refine⟨_,q0,?_⟩;simp;refine⟨_,q1,?_⟩;simp;refine⟨_,q2,?_⟩;simp;refine⟨_,q3,?_⟩;simp;simp[AB 54 10,hw,N]
  try simp at G
  exact G.symm
 .have:k=r.dates.length:=AE;subst this;rw[Bj,AN];simp
def fJ(r:Rgt)(a1:∀d∈r.owners,d.ok)(hn:r.owners.length<=2^30)(Y:List Int)(hY:Y.length<=2^43)(J:List Row):
  AX (.loop (lG 54 1)) (λe s=>e= .exit 2/\AK s.e 1= .R 0 0/\AK s.e 7= .W 5 1 ((Y++r.owners.flatMap Bl).map (.int .u8))/\∃W,s.h=r.row::W)
   ⟨[(1,.R 0 0),(7,.W 5 1 (Y.map (.int .u8))),(10,((0:Int):D))],r.row::J⟩:=by
 refine Ag r.owners.length (λk s=>s.e=[(1,.R 0 0),(7,.W 5 1 ((Y++(r.owners.take k).flatMap Bl).map (.int .u8))),(10,(k:D))]/\∃W,s.h=r.row::W) ⟨Ac,J,Ac⟩ ?_;rintro k ⟨se,sh⟩ hk ⟨he,W,hh⟩;simp only at he hh;subst he hh;simp only[Zw,BG 54 1,AB 54 16];simp[Rgt.row];by_cases N:k <r.owners.length
 .obtain⟨x,O⟩:∃x,r.owners[k]?=some x:=⟨_,rW N⟩;have a2:r.owners[k]=x:=(rZ.1 O).2;have hx:=a1 x (rY O);have hw:=Bt k;have a7:=DL Ep (r.owners.take k);have ht:(r.owners.take k).length=k:=by simp;omega
  have e:(r.owners.take (k+1)).flatMap Bl=(r.owners.take k).flatMap Bl++Bl x:=by rw[Bk N,a2]
  have:=Al x.party;have:=Al x.num;have:=Al x.den;obtain⟨X,Z⟩:∃X,Y++(r.owners.take k).flatMap Bl=X:=⟨_,rfl⟩;have a6:X.length<=2^44:=by rw[<-Z,re];omega
  have q0:=Iq (X) x.party hx.1 (by first|omega|(simp only[re];omega))
  try simp at q0
  have q1:=Iq (X++Aj x.party) x.num hx.2.1 (by first|omega|(simp only[re];omega))
  try simp at q1
  have q2:=Iq (X++Aj x.party++Aj x.num) x.den hx.2.2 (by first|omega|(simp only[re];omega))
  try simp at q2
  have G:(Y++(r.owners.take (k+1)).flatMap Bl).map (V.int .u8)=(X++Aj x.party++Aj x.num++Aj x.den).map (V.int .u8):=by rw[e,<-rn,Z];simp[Bl]
  have U:Y.map (V.int .u8)++((r.owners.take k).flatMap Bl).map (V.int .u8)=X.map (V.int .u8):=by rw[<-Z,r9]
  rw[CF,AD];simp only[AB 54 18];simp[O,Own.V,AQ,Aa];simp only[AB 54 19];simp
  try simp only[r9]at U
  try rw[U]
  refine⟨_,q0,?_⟩;simp;refine⟨_,q1,?_⟩;simp;refine⟨_,q2,?_⟩;simp;simp[AB 54 17,hw,N]
  try simp at G
  exact G.symm
 .have:k=r.owners.length:=AE;subst this;rw[Bj,AN];simp
def fI(r:Rgt)(a1:∀d∈r.lics,d.ok)(hn:r.lics.length<=2^30)(Y:List Int)(hY:Y.length<=2^43)(J:List Row):
  AX (.loop (lG 54 2)) (λe s=>e= .exit 4/\AK s.e 1= .R 0 0/\AK s.e 7= .W 5 1 ((Y++r.lics.flatMap Bm).map (.int .u8))/\∃W,s.h=r.row::W)
   ⟨[(1,.R 0 0),(7,.W 5 1 (Y.map (.int .u8))),(12,((0:Int):D))],r.row::J⟩:=by
 refine Ag r.lics.length (λk s=>s.e=[(1,.R 0 0),(7,.W 5 1 ((Y++(r.lics.take k).flatMap Bm).map (.int .u8))),(12,(k:D))]/\∃W,s.h=r.row::W) ⟨Ac,J,Ac⟩ ?_;rintro k ⟨se,sh⟩ hk ⟨he,W,hh⟩;simp only at he hh;subst he hh;simp only[Zw,BG 54 2,AB 54 22];simp[Rgt.row];by_cases N:k <r.lics.length
 .obtain⟨x,O⟩:∃x,r.lics[k]?=some x:=⟨_,rW N⟩;have a2:r.lics[k]=x:=(rZ.1 O).2;have hx:=a1 x (rY O);have hw:=Bt k;have a7:=DL Er (r.lics.take k);have ht:(r.lics.take k).length=k:=by simp;omega
  have e:(r.lics.take (k+1)).flatMap Bm=(r.lics.take k).flatMap Bm++Bm x:=by rw[Bk N,a2]
  have:=Al x.fr;have:=Al x.to;have:=Al x.fst;have:=Al x.lst;obtain⟨X,Z⟩:∃X,Y++(r.lics.take k).flatMap Bm=X:=⟨_,rfl⟩;have a6:X.length<=2^44:=by rw[<-Z,re];omega
  have q0:=Iq (X) x.fr hx.1 (by first|omega|(simp only[re];omega))
  try simp at q0
  have q1:=Iq (X++Aj x.fr) x.to hx.2.1 (by first|omega|(simp only[re];omega))
  try simp at q1
  have q2:=Iq (X++Aj x.fr++Aj x.to) x.fst hx.2.2.1 (by first|omega|(simp only[re];omega))
  try simp at q2
  have q3:=Iq (X++Aj x.fr++Aj x.to++Aj x.fst) x.lst hx.2.2.2 (by first|omega|(simp only[re];omega))
  try simp at q3
  have G:(Y++(r.lics.take (k+1)).flatMap Bm).map (V.int .u8)=(X++Aj x.fr++Aj x.to++Aj x.fst++Aj x.lst).map (V.int .u8):=by rw[e,<-rn,Z];simp[Bm]
  have U:Y.map (V.int .u8)++((r.lics.take k).flatMap Bm).map (V.int .u8)=X.map (V.int .u8):=by rw[<-Z,r9]
  rw[CF,AD];simp only[AB 54 24];simp[O,Lic.V,AQ,Aa];simp only[AB 54 25];simp
  try simp only[r9]at U
  try rw[U]
  refine⟨_,q0,?_⟩;simp;refine⟨_,q1,?_⟩;simp;refine⟨_,q2,?_⟩;simp;refine⟨_,q3,?_⟩;simp;simp[AB 54 23,hw,N]
  try simp at G
  exact G.symm
 .have:k=r.lics.length:=AE;subst this;rw[Bj,AN];simp
def qf(r:Rgt)(G:r.ok):PX 54 [r.V] [AM .u8 (if Ao r then A7 r else []),((if Ao r then 0 else 1:Int):V)]:=by
 refine BS 54 ?_;have p1:=(pk r G).fsp;have c7:=G.lb;have hld:=G.ld;have c5:=G.lo;have c4:=G.ll;have c6:=G.enc;have c3:Ao r=true->CB r.claims=0:=by intro h;unfold Ao at h;simp at h;exact h.1.1.1.1.1.1.2
 have p2:=(nT r.claims G.claims (by have:=G.lc;omega) AE).fsp;cases hf:Ao r with
 |false=>
  rw[hf]at p1;simp only[As 54,AH,AJ,AO,AB 54 0,AB 54 1,Ad];simp[Rgt.V,Rgt.cs]at p1 ⊢;refine⟨_,_,p1 _,?_⟩;simp[AA,AB 54 2,AB 54 3,AW 54,AM]
 |true=>
  rw[hf]at p1;rw[c3 hf]at p2;simp at p2;obtain⟨R,hR⟩:∃R,A7 r=R:=⟨_,rfl⟩;rw[hR];have i1:=Al r.file;have i2:=Al r.state;have i3:=Al r.force;have q0:=eQ r.file G.file;have q1:=Iq (Aj r.file) r.state G.state AE;obtain⟨Y1,b9⟩:∃Y,Aj r.file++Aj r.state=Y:=⟨_,rfl⟩;rw[b9]at q1;have m1:Y1.length<=20:=by rw[<-b9,re];omega
  have q2:=Iq Y1 r.force G.force AE;obtain⟨X1,Z⟩:∃X1,Y1++Aj r.force=X1:=⟨_,rfl⟩;have l1:X1.length<=30:=by rw[<-Z,re];omega
  rw[Z]at q2;have q3:=eh (BM r.claims) AE;have c1:(BR (BM r.claims)).length<=2^40:=by have:=Cu (BM r.claims).length;simp only[BR,re];omega
  obtain⟨W,hW⟩:∃W,BR (BM r.claims)=W:=⟨_,rfl⟩;rw[hW]at q3 c1;obtain⟨X2,a6⟩:∃X2,X1++W=X2:=⟨_,rfl⟩;have l2:X2.length<=2^41:=by rw[<-a6,re];omega
  have q4:=Iq X2 r.dates.length (by unfold i64;omega) AE;obtain⟨X3,a7⟩:∃X3,X2++Aj r.dates.length=X3:=⟨_,rfl⟩;have i4:=Al r.dates.length;have l3:X3.length<=2^41+10:=by rw[<-a7,re];omega
  rw[a7]at q4;have q5:=λJ=>fK r G.dates hld X3 AE J;have i5:=DL Es r.dates;obtain⟨X4,a8⟩:∃X4,X3++r.dates.flatMap Bn=X4:=⟨_,rfl⟩;have l4:X4.length<=2^41+2^37:=by rw[<-a8,re];omega
  rw[a8]at q5;have q6:=λh=>eg r.bad G.bad AE h;have i6:=CQ r.bad;have i7:=Cu r.bad.length;obtain⟨W2,U⟩:∃W,BI r.bad=W:=⟨_,rfl⟩;have w2:W2.length<=2^37:=by rw[<-U,BI,re];omega
  rw[U]at q6;obtain⟨X5,b0⟩:∃X5,X4++W2=X5:=⟨_,rfl⟩;have l5:X5.length<=2^41+2^38:=by rw[<-b0,re];omega
  have q7:=Iq X5 r.owners.length (by unfold i64;omega) AE;obtain⟨X6,b3⟩:∃X6,X5++Aj r.owners.length=X6:=⟨_,rfl⟩;have i8:=Al r.owners.length;have l6:X6.length<=2^41+2^38+10:=by rw[<-b3,re];omega
  rw[b3]at q7;have q8:=λJ=>fJ r G.owners c5 X6 AE J;have i9:=DL Ep r.owners;obtain⟨X7,b4⟩:∃X7,X6++r.owners.flatMap Bl=X7:=⟨_,rfl⟩;have l7:X7.length<=2^41+2^39:=by rw[<-b4,re];omega
  rw[b4]at q8;have q9:=Iq X7 r.lics.length (by unfold i64;omega) AE;obtain⟨X8,b5⟩:∃X8,X7++Aj r.lics.length=X8:=⟨_,rfl⟩;have c8:=Al r.lics.length;have l8:X8.length<=2^41+2^39+10:=by rw[<-b5,re];omega
  rw[b5]at q9;have c0:=λJ=>fI r G.lics c4 X8 AE J;have c9:=DL Er r.lics;obtain⟨X9,b6⟩:∃X9,X8++r.lics.flatMap Bm=X9:=⟨_,rfl⟩;have l9:X9.length<=2^42:=by rw[<-b6,re];omega
  rw[b6]at c0;have c2:X9=R:=by rw[<-hR,<-b6,<-b5,<-b4,<-b3,<-b0,<-a8,<-a7,<-a6,<-Z,<-hW,<-U,<-b9];simp[A7]
  rw[c2]at c0 l9;generalize Aj r.file=F0 at*;simp[AM]at p2;have a1:X1.map (V.int .u8)++W.map (V.int .u8)=X2.map (V.int .u8):=by rw[<-a6,r9]
  have a2:X4.map (V.int .u8)++W2.map (V.int .u8)=X5.map (V.int .u8):=by rw[<-b0,r9]
  have b1:AV (X1.length+W.length) 1=true:=by simp[AV];omega
  have b2:AV (X4.length+W2.length) 1=true:=by simp[AV];omega
  simp only[Zw,As 54,AB 54 0,AB 54 1,Ad];simp[Rgt.V,Rgt.cs,AM]at p1 ⊢;refine⟨_,_,p1 _,?_⟩;simp[AD,AB 54 2,AB 54 4];refine⟨_,_,p2 _,?_⟩;simp[Aa,AB 54 5];refine⟨_,q0,?_⟩;simp;refine⟨_,q1,?_⟩;simp;refine⟨_,q2,?_⟩;simp[AB 54 6];simp[AM]at q3;refine⟨_,_,(q3 _),?_⟩;simp[b1,a1,AB 54 7];refine⟨_,q4,?_⟩;simp[AB 54 8];refine Ap _ ?_ (q5 _);rintro e ⟨se,sh⟩ ⟨rfl,N,f7,J2,O⟩;simp only at N f7 O;subst O;simp[AB 54 13,N,f7,Rgt.row];simp[AM]at q6;refine⟨_,_,(q6 _),?_⟩;simp[b2,a2,AB 54 14,N];refine⟨_,q7,?_⟩;simp[AB 54 15];refine Ap _ ?_ (q8 _);rintro e ⟨se,sh⟩ ⟨rfl,N,f7,J3,O⟩;simp only at N f7 O;subst O;simp[AB 54 20,N,f7,Rgt.row];refine⟨_,q9,?_⟩;simp[AB 54 21];refine Ap _ ?_ (c0 _);rintro e ⟨se,sh⟩ ⟨rfl,N,f7,J4,O⟩;simp only at N f7 O;subst O;simp[AB 54 26,f7,AA,AW 54]
def pZ:TL:=[te 260,te 311,te 331]
def ZY:pZ.all ck=true:=HR
def rQ(f:Nat):Option (Nat×AC×List AR):=QO pZ f
theorem kR:∀a b:Int,0<=a->a <6->0<=b->b <6->PX 311 [(D8.map (AM .i64):V),a,b] [.bool (Cj 6 (DC 6 zb) a b)]:=by
 intro a b O h2 U W;have J:a=0\/a=1\/a=2\/a=3\/a=4\/a=5:=AE;have N:b=0\/b=1\/b=2\/b=3\/b=4\/b=5:=AE;rcases J with rfl|rfl|rfl|rfl|rfl|rfl<;>rcases N with rfl|rfl|rfl|rfl|rfl|rfl
 all_goals exact GY (T:=rQ) (Pr:=iv) (fuel:=200) (λf n G rs h=>QN ZY f n G rs h) (λf args h x hx=>by cases hx) HR
open Go.Proofs
open Go.Proofs
end Go.Va
