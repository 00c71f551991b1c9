/- Laws that ExtractBytes leans on, part 17. No condition of its own. -/
import Derived.Test.YtopldfpkgbkomaaGreatDoorL15
set_option linter.all false
set_option maxRecDepth 100000
set_option maxHeartbeats 4000000
noncomputable section
namespace Go.Va
open Go.Proofs
theorem IY (xs:List Int) (n:Int) (hn:i64 n) (hl:xs.length≤2^45):cg Tryz.prog An 135 [.own 5 1 (xs.map (.int .u8)),.v (.int .i64 n)] [.own 5 1 ((xs++AN n).map (.int .u8))]:=by
 refine Le (KN 135) rfl λh=>?_;have he:=AO n;have hroom:AK (xs.length+(AN n).length) 1=true:=by simp[AK];omega
 simp only[At 135,AE,AG,AA 135 0,AA 135 1,Ab];simp;refine⟨_,_,(Fl n hn h),?_⟩;simp[hroom,AD,AX 135]
theorem eB (n:Int) (hn:i64 n):cg Tryz.prog An 135 [.nil 5 1,.v (.int .i64 n)] [.own 5 1 ((AN n).map (.int .u8))]:=by
 refine Le (KN 135) rfl λh=>?_;have he:=AO n;have hroom:AK (AN n).length 1=true:=by simp[AK];omega
 simp only[At 135,AE,AG,AA 135 0,AA 135 1,Ab];simp;refine⟨_,_,(Fl n hn h),?_⟩;simp[hroom,AD,AX 135]
theorem LN {α:Type} {ok:α→Bool} {f:α→α→Bool} {l:List α} (P:Nat→Bool) (hP:∀(k:Nat) x,l[k]?=some x→(∀j <k,P j=true)→P k=(ok x&&(match k with|0=>true|j+1=>match l[j]? with|some y=>f y x|none=>true))):
  (l.all ok&&Co f l)=decide (∀k <l.length,P k=true):=by
 rw[sL,qI,FS,qV,decide_eq_true_eq]
 constructor
 ·rintro⟨h1,h2⟩;have key:∀n,∀k <n,k <l.length→P k=true:=by
   intro n;induction n with
   |zero=>intro k hk;omega
   |succ n ih=>
    intro k hk hkl;have hx:l[k]?=some l[k]:=qH hkl;rw[hP k _ hx λj hj=>ih j (by omega) (by omega),h1 _ (rl hkl),rC];cases k with
    |zero=>rfl
    |succ j=>
     have hy:l[j]?=some l[j]:=qH (by omega);simp only[hy];exact h2 j _ _ hy hx
  exact λk hk=>key (k+1) k (by omega) hk
 ·intro h;have h3:∀(k:Nat) x,l[k]?=some x→(ok x&&(match k with|0=>true|j+1=>match l[j]? with|some y=>f y x|none=>true))=true:=by
   intro k x hx;have hk:=(qK.1 hx).1;rw[←hP k x hx λj hj=>h j (by omega)];exact h k hk
  refine⟨λx hx=>?_,λi x y hx hy=>?_⟩
  ·obtain⟨k,hk⟩:=tJ hx;have:=h3 k x hk;simp only[qI]at this;exact this.1
  ·have:=h3 (i+1) y hy;simp only[qI,hx]at this;exact this.2
def Rgt.row (r:Rgt):Row:= .cells [.v (.int .i64 r.file),.v (.int .i64 r.state),.v (.int .i64 r.force),.v (.list (r.claims.map Clm.V)),.v (.list (r.dates.map Dat.V)),.v (AH .i64 r.bad),.v (.list (r.owners.map Own.V)),.v (.list (r.lics.map Lic.V))]
def Hd {α:Type} (f:α→α→Bool) (l:List α) (k:Nat) (x:α):Bool:=match k with|0=>true|j+1=>match l[j]? with|some y=>f y x|none=>true
theorem ZY (x:Lic) (q:Nat) (H:List Row) (hq:H[q]?=some (.cells [.v (.int .i64 x.fr),.v (.int .i64 x.to),.v (.int .i64 x.fst),.v (.int .i64 x.lst)])) (d10:D) (K:St→Prop)
  (hK:∀e',AF e' 1= .ref 0 0→AF e' 10=d10→AF e' 228= .v (.bool (!G9 x))→K ⟨e',H⟩):
  Bd Tryz.prog An (oG 49 27) K ⟨[(1,.ref 0 0),(10,d10),(11,.ref q 0)],H⟩:=by
 have p1:=(Kr x.fr 1 4095).fsp;have p2:=(Kr x.to 1 4095).fsp;have p3:=(Kr x.fst 0 x.lst).fsp;unfold G9 at hK;generalize D5 x.fr 1 4095=A at*;generalize D5 x.to 1 4095=B at*;generalize D5 x.fst 0 x.lst=C at*;simp at p1 p2 p3;simp only[AA 49 27];simp[hq];refine⟨_,_,p1 _,?_⟩;cases A with
 |false=>simp;exact hK _ rfl rfl rfl
 |true=>
 simp[hq];refine⟨_,_,p2 _,?_⟩;cases B with
 |false=>simp;exact hK _ rfl rfl rfl
 |true=>
 simp[hq];refine⟨_,_,p3 _,?_⟩;cases C with
 |false=>simp;exact hK _ rfl rfl rfl
 |true=>
 simp[hq];refine hK _ rfl rfl ?_;simp;by_cases h:x.lst≤131072<;>simp[h]<;>omega
theorem cu (x:Dat) (n:Nat) (last:Int) (q:Nat) (H:List Row) (hq:H[q]?=some (.cells [.v (.int .i64 x.cl),.v (.int .i64 x.ix),.v (.int .i64 x.day),.v (.int .i64 x.file)])) (hn:n≤2^30) (d1 d5:D) (K:St→Prop)
  (hK:∀e',AF e' 1=d1→AF e' 3= .v (.int .i64 n)→AF e' 5=d5→AF e' 6= .ref q 0→AF e' 98= .v (.bool (!(HC n x&&decide (last <64*x.cl+x.ix))))→K ⟨e',H⟩):
  Bd Tryz.prog An (oG 49 9) K ⟨[(1,d1),(3,.v (.int .i64 n)),(4,.v (.int .i64 last)),(5,d5),(6,.ref q 0)],H⟩:=by
 have p1:=(Kr x.cl 0 (n-1)).fsp;have p2:=(Kr x.ix 0 63).fsp;have p3:=(Kr x.day 0 131072).fsp;have p4:=(Kr x.file 0 4095).fsp;have w0:IntKind.i64.wrap ((n:Int)-1)=n-1:=AQ;have b1:D5 x.cl 0 (n-1)=true→0≤x.cl∧x.cl≤n-1:=by simp[D5]
 have b2:D5 x.ix 0 63=true→0≤x.ix∧x.ix≤63:=by simp[D5]
 unfold HC at hK;generalize D5 x.cl 0 (n-1)=A at*;generalize D5 x.ix 0 63=B at*;generalize D5 x.day 0 131072=C at*;generalize D5 x.file 0 4095=E at*;simp at p1 p2 p3 p4;simp only[AA 49 9];simp[hq,w0];refine⟨_,_,p1 _,?_⟩;cases A with
 |false=>simp;exact hK _ rfl rfl rfl rfl rfl
 |true=>
 simp[hq];refine⟨_,_,p2 _,?_⟩;cases B with
 |false=>simp;exact hK _ rfl rfl rfl rfl rfl
 |true=>
 have b1:=b1 rfl;have b2:=b2 rfl;have w1:IntKind.i64.wrap (64*x.cl)=64*x.cl:=AQ;have w2:IntKind.i64.wrap (64*x.cl+x.ix)=64*x.cl+x.ix:=AQ;simp[hq];refine⟨_,_,p3 _,?_⟩;cases C with
 |false=>simp;exact hK _ rfl rfl rfl rfl rfl
 |true=>
 simp[hq];refine⟨_,_,p4 _,?_⟩;cases E with
 |false=>simp;exact hK _ rfl rfl rfl rfl rfl
 |true=>
 simp[hq,w1,w2];refine hK _ rfl rfl rfl rfl ?_;simp;by_cases h:last <64*x.cl+x.ix<;>simp[h]<;>omega
theorem Za (r:Rgt) (n k:Nat) (x:Int) (H:List Row) (h0:H[0]?=some r.row) (hx:r.bad[k]?=some x) (hn:n≤2^30) (hk:k≤2^30) (d111:D) (K:St→Prop)
  (hK:∀e',AF e' 1= .ref 0 0→AF e' 3= .v (.int .i64 n)→AF e' 7= .v (.int .i64 k)→AF e' 140= .v (.bool (!(D5 x 0 (n-1)&&Hd (λa b=>decide (a <b)) r.bad k x)))→K ⟨e',H⟩):
  Jl Tryz.prog An (oG 49 15) K ⟨[(1,.ref 0 0),(3,.v (.int .i64 n)),(7,.v (.int .i64 k)),(111,d111)],H⟩:=by
 have p1:=Kr x 0 (n-1);have w0:IntKind.i64.wrap ((n:Int)-1)=n-1:=AQ;generalize D5 x 0 (n-1)=A at*;simp only[AA 49 15];simp[h0,Rgt.row,w0,AH,hx];refine⟨_,_,⟨rfl,rfl⟩,_,p1,?_⟩;cases A with
 |false=>simp;exact hK _ rfl rfl rfl rfl
 |true=>
 cases k with
 |zero=>simp;exact hK _ rfl rfl rfl rfl
 |succ j=>
  have hj:j <r.bad.length:=by have:=(qK.1 hx).1;omega
  obtain⟨y,hy⟩:∃y,r.bad[j]?=some y:=⟨_,qH hj⟩;have w1:IntKind.i64.wrap (((j+1:Nat):Int)-1)=j:=by rw[AQ];omega
  have w2:(0:Int) <((j+1:Nat):Int):=by omega
  have w5:IntKind.i64.wrap (j:Int)=j:=AQ;have w3:(0:Int)≤((j+1:Nat):Int):=by omega
  have w4:((j+1:Nat):Int).toNat=j+1:=by omega
  simp only[rQ,tK]at w1 w2 w3 w4;simp[h0,Rgt.row,AH,hx,w2,w5,w3,w4,hy];refine hK _ rfl rfl (by simp) ?_;simp[Hd,hy];by_cases h:y <x<;>simp[h]<;>omega
theorem ZZ (r:Rgt) (k:Nat) (x:Own) (hxo:x.ok) (q:Nat) (H:List Row) (h0:H[0]?=some r.row) (hx:r.owners[k]?=some x) (hk:k≤2^30) (hq:H[q]?=some (.cells [.v (.int .i64 x.party),.v (.int .i64 x.num),.v (.int .i64 x.den)])) (K:St→Prop)
  (hK:∀e',AF e' 1= .ref 0 0→AF e' 8= .v (.int .i64 k)→AF e' 193= .v (.bool (!(FW x&&Hd (λa b=>decide (a.party <b.party)) r.owners k x)))→K ⟨e',H⟩):
  Jl Tryz.prog An (oG 49 21) K ⟨[(1,.ref 0 0),(8,.v (.int .i64 k)),(9,.ref q 0)],H⟩:=by
 have p1:=Kr x.party 1 4095;have p2:=Zl x.num x.den hxo.2.1 hxo.2.2;unfold FW at hK;generalize D5 x.party 1 4095=A at*;generalize En x.num x.den=B at*;simp[BL]at p2;simp only[AA 49 21];simp[hq];refine⟨_,_,⟨rfl,rfl⟩,_,p1,?_⟩;cases A with
 |false=>simp;exact hK _ rfl rfl rfl
 |true=>
 simp[hq];refine⟨_,_,⟨rfl,rfl⟩,_,p2,?_⟩;cases B with
 |false=>simp;exact hK _ rfl rfl rfl
 |true=>
 simp[hq];by_cases h1:x.num≤0
 ·have h1':¬0 <x.num:=by omega
  simp[h1];exact hK _ rfl rfl (by simp[h1'])
 have h1':0 <x.num:=by omega
 simp[h1];by_cases h2:x.den <x.num
 ·have h2':¬x.num≤x.den:=by omega
  simp[h2];exact hK _ rfl rfl (by simp[h2'])
 have h2':x.num≤x.den:=by omega
 simp[h2];cases k with
 |zero=>simp;exact hK _ rfl rfl (by simp[h1',h2',Hd])
 |succ j=>
  have hj:j <r.owners.length:=by have:=(qK.1 hx).1;omega
  obtain⟨y,hy⟩:∃y,r.owners[j]?=some y:=⟨_,qH hj⟩;have w1:IntKind.i64.wrap (((j+1:Nat):Int)-1)=j:=by rw[AQ];omega
  have w2:(0:Int) <((j+1:Nat):Int):=by omega
  have w5:IntKind.i64.wrap (j:Int)=j:=AQ;simp only[rQ,tK]at w1 w2;simp[h0,Rgt.row,w5,hy,Own.V];refine hK _ rfl (by simp) ?_;simp[Hd,hy,h1',h2'];by_cases h:y.party <x.party<;>simp[h]<;>omega
end Go.Va
