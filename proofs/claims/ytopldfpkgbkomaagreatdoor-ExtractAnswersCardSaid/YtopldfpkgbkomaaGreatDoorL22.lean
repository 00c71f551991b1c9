/- Laws that ExtractAnswers leans on, part 22. No condition of its own. -/
import Derived.Test.YtopldfpkgbkomaaGreatDoorL10
import Derived.Test.YtopldfpkgbkomaaGreatDoorL11
import Derived.Test.YtopldfpkgbkomaaGreatDoorL18
set_option linter.all false
set_option maxRecDepth 100000
set_option maxHeartbeats 4000000
noncomputable section
namespace Go.Va
open Go.Proofs
theorem iB (h:List Row) (m:Nat):FX 238 [.mref m] h [.func 300 [.ref h.length 0]] (h++[.cells [.mref m]]):=by
 refine Dh 238 ?_;simp[Ai 238,awp,AA 238 0,AA 238 1,AW 238,AQ,D.vs?,D.v?]
theorem iA (a b:Int) (h:List Row):FX 239 [.v (.int .i64 a),.v (.int .i64 b)] h [.func 301 [.ref h.length 0,.ref (h.length+1) 0]] (h++[.cells [.v (.int .i64 a)],.cells [.v (.int .i64 b)]]):=by
 refine Dh 239 ?_;simp[Ai 239,awp,AA 239 0,AA 239 1,AW 239,AQ,D.vs?,D.v?]
def Ll (K:KM) (k:Int):List Int:=((K.E.find? λx=>x.1==k).map (·.2)).getD []
def H5 (K:KM) (k:Int):V:= .agg [.int .i64 k,AH .u8 (Ll K k)]
theorem aY (K:KM) (k:Int) (hk:k∈K.E.map (·.1)):∃i,Cv false [0] (.int .i64 k) (K.E.map Gg)=some (some i)∧(K.E.map Gg)[i]?=some (.int .i64 k,AH .u8 (Ll K k)):=by
 have hf:=LQ (λx:Int×List Int=>x.1==k) K.E;obtain⟨x,hx,rfl⟩:=oP.1 hk;rcases hf with ⟨h1,h2⟩|⟨i,y,h1,h2,h3⟩
 ·rw[rp]at h2;exact absurd (h2 x hx) (by simp)
 ·refine⟨i,by rw[Kh,h1],?_⟩;have hy:y.1=x.1:=by have:=List.find?_some h3;simpa using this
  rw[oX,h2];simp[Gg,Ll,h3,hy]
section
theorem Vt (n p:Int):(n+1)*p=n*p+p:=by rw[qg,rV]
def Cr (a b:Int):Nat→Int→List (Nat×Int)
 |0,n=>if (n+1)*2^0≤a∨b <n*2^0 then [(0,n)] else []
 |l+1,n=>if (n+1)*2^(l+1)≤a∨b <n*2^(l+1) then [(l+1,n)] else if a≤n*2^(l+1)∧(n+1)*2^(l+1)-1≤b then [] else Cr a b l (2*n)++Cr a b l (2*n+1)
theorem Iq {a b:Int}:∀ {l:Nat} {n:Int} {x:Nat×Int},0≤n→x∈Cr a b l n→x.1≤l∧0≤x.2∧(x.2+1)*2^x.1≤(n+1)*2^l∧((x.2+1)*2^x.1≤a∨b <x.2*2^x.1)
 |0,n,x,h0,h=>by
  simp only[Cr]at h;split at h
  ·rename_i hc;rw[oS.1 h];exact⟨oN _,h0,Int.le_refl _,hc⟩
  ·cases h
 |l+1,n,x,h0,h=>by
  have e0:(2:Int)^(l+1)=2*2^l:=by rw[pW,ph]
  have hp:(1:Int)≤2^l:=pq (by decide);simp only[Cr]at h;split at h
  ·rename_i hc;rw[oS.1 h];exact⟨oN _,h0,Int.le_refl _,hc⟩
  ·split at h
   ·cases h
   ·have e1:(n+1)*2^(l+1)=(2*n+1)*2^l+2^l:=by rw[e0,←qD,←Vt];congr 1;omega
    rcases oc.1 h with h|h
    ·obtain⟨g1,g2,g3,g4⟩:=Iq (by omega) h;exact⟨by omega,g2,by omega,g4⟩
    ·obtain⟨g1,g2,g3,g4⟩:=Iq (by omega) h;have e2:(2*n+1+1)*(2:Int)^l=(2*n+1)*2^l+2^l:=Vt _ _;exact⟨by omega,g2,by omega,g4⟩
theorem Sr (l:Nat):Cr 0 4095 12 0=[]:=by decide
theorem Sn (l:Nat) (n:Int) (hl:l≤12) (h0:0≤n) (h1:(n+1)*2^l≤4096):PX 240 [Cz l n] [.int .i64 ((n+1)*2^l-1)]:=by
 refine BJ 240 ?_;have hp:(1:Int)≤2^l:=pq (by decide);have hm:n+1≤(n+1)*2^l:=by have:=Int.mul_le_mul_of_nonneg_left hp (show 0≤n+1 by omega);omega
 have w1:IntKind.i64.wrap (n+1)=n+1:=AL;have w2:IntKind.i64.wrap ((n+1)*2^l)=(n+1)*2^l:=AL;have w3:IntKind.i64.wrap ((n+1)*2^l-1)=(n+1)*2^l-1:=AL;have hb:min l IntKind.i64.bits=l:=qH (by simp[IntKind.bits];omega);simp only[Ai 240,AE,AF,AA 240 0,AA 240 1,AX,Cz];simp[w1,hb,w2,w3];simp[AB,AW 240]
theorem Up (l:Nat) (n:Int) (hl:l≤12) (h0:0≤n) (h1:(n+1)*2^l≤4096):PX 271 [Cz l n] [.int .i64 (n*2^l)]:=by
 refine BJ 271 ?_;have hp:(1:Int)≤2^l:=pq (by decide);have e2:(n+1)*(2:Int)^l=n*2^l+2^l:=Vt _ _;have h3:0≤n*(2:Int)^l:=qe h0 (by omega);have w2:IntKind.i64.wrap (n*2^l)=n*2^l:=AL;have hb:min l IntKind.i64.bits=l:=qH (by simp[IntKind.bits];omega);simp only[Ai 271,AE,AF,AA 271 0,AA 271 1,AX,Cz];simp[hb,w2];simp[AB,AW 271]
variable {r:Nat}
section
variable {lv n f la a b:Int} {H:List Row} {x y z u:Nat} (q1:PX 240 [Cz lv n] [.int .i64 la]) (q2:PX 271 [Cz lv n] [.int .i64 f])
 (hx:H[x]?=some (.cells [.v (.int .i64 a)])) (hy:H[y]?=some (.cells [.v (.int .i64 b)]))
include q1 q2 hx hy
theorem jk (hz:H[z]?=some (.cells [.yld r])) (h:la <a∨b <f) {H':List Row} (hY:Nk Tryz.prog Ah r [.v (Cz lv n)] (H++[.cells [.v (.int .i64 lv),.v (.int .i64 n)]]) true H'):
  FX 302 [.v (Cz lv n),.ref x 0,.ref y 0,.ref z 0,.ref u 0] H [.v (.bool true)] H':=by
 refine Dh 302 ?_;have hx':=AV [.cells [.v (.int .i64 lv),.v (.int .i64 n)]] hx;have hy':=AV [.cells [.v (.int .i64 lv),.v (.int .i64 n)]] hy;have hz':=AV [.cells [.v (.int .i64 lv),.v (.int .i64 n)]] hz;simp[Cz]at q1 q2 hY;simp only[Ai 302,AE,AF,AS,AK,AA 302 0,AA 302 1,AQ,Cz];simp[-Bool.exists_bool];refine⟨_,_,⟨rfl,rfl⟩,_,q1,?_⟩;by_cases c1:la <a
 ·simp[hx',c1,-Bool.exists_bool];simp[AA 302 2,hz',-Bool.exists_bool];exact⟨_,_,hY,by simp[AB,AW 302]⟩
 ·have c2:b <f:=by omega
  simp[hx',c1,-Bool.exists_bool];refine⟨_,_,⟨rfl,rfl⟩,_,q2,?_⟩;simp[hy',c2,-Bool.exists_bool];simp[AA 302 2,hz',-Bool.exists_bool];exact⟨_,_,hY,by simp[AB,AW 302]⟩
theorem bz (h1:¬la <a) (h2:¬b <f) (h3:a≤f) (h4:la≤b):
  FX 302 [.v (Cz lv n),.ref x 0,.ref y 0,.ref z 0,.ref u 0] H [.v (.bool true)] (H++[.cells [.v (.int .i64 lv),.v (.int .i64 n)]]):=by
 refine Dh 302 ?_;have hx':=AV [.cells [.v (.int .i64 lv),.v (.int .i64 n)]] hx;have hy':=AV [.cells [.v (.int .i64 lv),.v (.int .i64 n)]] hy;simp[Cz]at q1 q2;simp only[Ai 302,AE,AF,AS,AK,AA 302 0,AA 302 1,AQ,Cz];simp;refine⟨_,_,⟨rfl,rfl⟩,_,q1,?_⟩;simp[hx',h1];refine⟨_,_,⟨rfl,rfl⟩,_,q2,?_⟩;simp[hy',h2,AD,AA 302 3]
 try simp only[AS]
 try simp
 refine⟨_,_,⟨rfl,rfl⟩,_,q2,?_⟩;simp[hx',h3];refine⟨_,_,⟨rfl,rfl⟩,_,q1,?_⟩;simp[hy',h4,AA 302 4,AB,AW 302]
theorem du {lv' n0 n1:Int} (hu:H[u]?=some (.cells [.func 302 [.ref x 0,.ref y 0,.ref z 0,.ref u 0]])) (h1:¬la <a) (h2:¬b <f) (h3:¬(a≤f∧la≤b)) (q3:PX 181 [Cz lv n] [Cz lv' n0,Cz lv' n1]) {H1 H2:List Row}
  (g1:FX 302 [.v (Cz lv' n0),.ref x 0,.ref y 0,.ref z 0,.ref u 0] (H++[.cells [.v (.int .i64 lv),.v (.int .i64 n)],.cells [.v (.int .i64 lv'),.v (.int .i64 n0)],.cells [.v (.int .i64 lv'),.v (.int .i64 n1)]]) [.v (.bool true)] H1)
  (hu1:H1[u]?=some (.cells [.func 302 [.ref x 0,.ref y 0,.ref z 0,.ref u 0]])) (h8:H1[H.length+2]?=some (.cells [.v (.int .i64 lv'),.v (.int .i64 n1)]))
  (g2:FX 302 [.v (Cz lv' n1),.ref x 0,.ref y 0,.ref z 0,.ref u 0] H1 [.v (.bool true)] H2):
  FX 302 [.v (Cz lv n),.ref x 0,.ref y 0,.ref z 0,.ref u 0] H [.v (.bool true)] H2:=by
 refine Dh 302 ?_;have hx':=AV [.cells [.v (.int .i64 lv),.v (.int .i64 n)]] hx;have hy':=AV [.cells [.v (.int .i64 lv),.v (.int .i64 n)]] hy;have hu':=λZ=>AV Z hu;have q3:=q3.fsp;simp[Cz]at q1 q2 q3 g1 g2;simp only[Ai 302,AE,AF,AS,AK,AA 302 0,AA 302 1,AQ,Cz];simp;refine⟨_,_,⟨rfl,rfl⟩,_,q1,?_⟩;simp[hx',h1];refine⟨_,_,⟨rfl,rfl⟩,_,q2,?_⟩;simp[hy',h2,AD,AA 302 3]
 try simp only[AS]
 try simp
 refine⟨_,_,⟨rfl,rfl⟩,_,q2,?_⟩;simp[hx'];by_cases c3:a≤f
 ·have c4:¬la≤b:=λh=>h3 ⟨c3,h⟩;simp[c3];refine⟨_,_,⟨rfl,rfl⟩,_,q1,?_⟩;simp[hy',c4,AA 302 5];refine⟨_,_,q3 _,?_⟩;simp[AO,AA 302 6,hu'];refine⟨_,_,g1,?_⟩;simp[hu1,h8];refine⟨_,_,g2,?_⟩;simp[AB,AW 302]
 ·have c5:f <a:=by omega
  simp[c3,c5,AA 302 5];refine⟨_,_,q3 _,?_⟩;simp[AO,AA 302 6,hu'];refine⟨_,_,g1,?_⟩;simp[hu1,h8];refine⟨_,_,g2,?_⟩;simp[AB,AW 302]
end
theorem fV (a b:Int) (hab:a≤b) (S:Nat→List Row) (L x y r z u:Nat) (hL:∀k,(S k).length=L) (hx:∀k,(S k)[x]?=some (.cells [.v (.int .i64 a)])) (hy:∀k,(S k)[y]?=some (.cells [.v (.int .i64 b)])):
  ∀(l:Nat) (n:Int) (k:Nat) (J:List Row) (i j:Nat),l≤12→0≤n→(n+1)*2^l≤4096→
   (∀t q,(Cr a b l n)[t]?=some q→∀J,∃J2,Nk Tryz.prog Ah r [.v (Cz q.1 q.2)] (S (k+t)++J) true (S (k+t+1)++(J++J2)))→
   z=L+i→u=L+j→J[i]?=some (.cells [.yld r])→J[j]?=some (.cells [.func 302 [.ref x 0,.ref y 0,.ref z 0,.ref u 0]])→
   ∃J',FX 302 [.v (Cz l n),.ref x 0,.ref y 0,.ref z 0,.ref u 0] (S k++J) [.v (.bool true)] (S (k+(Cr a b l n).length)++(J++J')):=by
 have get:∀(k i z:Nat) (J:List Row),z=L+i→(S k++J)[z]?=J[i]?:=λk i z J h=>BI (S k) J z i (by rw[hL];exact h);intro l n k J i j hl h0 h1 hY hz hu hi hj;have hout:∀(l:Nat) (n:Int) (k:Nat) (J:List Row),l≤12→0≤n→(n+1)*2^l≤4096→(∃J2,Nk Tryz.prog Ah r [.v (Cz l n)] (S k++(J++[.cells [.v (.int .i64 l),.v (.int .i64 n)]])) true (S (k+1)++(J++[.cells [.v (.int .i64 l),.v (.int .i64 n)]]++J2)))→
   J[i]?=some (.cells [.yld r])→(n+1)*2^l≤a∨b <n*2^l→
   ∃J',FX 302 [.v (Cz l n),.ref x 0,.ref y 0,.ref z 0,.ref u 0] (S k++J) [.v (.bool true)] (S (k+1)++(J++J')):=by
  rintro l n k J hl h0 h1 ⟨J2,hy2⟩ hi hc;refine⟨[.cells [.v (.int .i64 l),.v (.int .i64 n)]]++J2,jk (Sn l n hl h0 h1) (Up l n hl h0 h1) (AV _ (hx k)) (AV _ (hy k)) (by rw[get k i z J hz];exact hi) (by omega) ?_⟩;rw[oR,←oR J];exact hy2
 induction l generalizing n k J with
 |zero=>
  simp only[Cr]at hY ⊢;split at hY
  ·rename_i hc;rw[if_pos hc];exact hout 0 n k J hl h0 h1 (hY 0 _ rfl _) hi hc
  ·rename_i hc;rw[if_neg hc];refine⟨[.cells [.v (.int .i64 (0:Nat)),.v (.int .i64 n)]],?_⟩
   ·have:=bz (z:=z) (u:=u) (Sn 0 n hl h0 h1) (Up 0 n hl h0 h1) (AV J (hx k)) (AV J (hy k)) (by simp at hc ⊢;omega) (by simp at hc ⊢;omega) (by simp at hc ⊢;omega) (by simp at hc ⊢;omega);rw[oR]at this;exact this
 |succ l ih=>
  have e0:(2:Int)^(l+1)=2*2^l:=by rw[pW,ph]
  have hp:(1:Int)≤2^l:=pq (by decide);have e1:(n+1)*2^(l+1)=(2*n+1)*2^l+2^l:=by rw[e0,←qD,←Vt];congr 1;omega
  have e2:(2*n+1+1)*(2:Int)^l=(2*n+1)*2^l+2^l:=Vt _ _;by_cases hc:(n+1)*2^(l+1)≤a∨b <n*2^(l+1)
  ·simp only[Cr,if_pos hc]at hY ⊢;exact hout (l+1) n k J hl h0 h1 (hY 0 _ rfl _) hi hc
  ·by_cases hd:a≤n*2^(l+1)∧(n+1)*2^(l+1)-1≤b
   ·simp only[Cr,if_neg hc,if_pos hd]at hY ⊢;refine⟨[.cells [.v (.int .i64 (l+1:Nat)),.v (.int .i64 n)]],?_⟩
    ·have:=bz (z:=z) (u:=u) (Sn (l+1) n hl h0 h1) (Up (l+1) n hl h0 h1) (AV J (hx k)) (AV J (hy k)) (by omega) (by omega) (by omega) (by omega);rw[oR]at this;exact this
   ·simp only[Cr,if_neg hc,if_neg hd]at hY ⊢;have q3:=Z8 (l+1:Nat) n (by omega) (by have h5:=Int.mul_le_mul_of_nonneg_left hp (show 0≤2*n+1 by omega);rw[Int.mul_one]at h5;omega);have el:((l+1:Nat):Int)-1=l:=by omega
    rw[el]at q3;obtain⟨J1,g1⟩:=ih (2*n) k (J++[.cells [.v (.int .i64 (l+1:Nat)),.v (.int .i64 n)],.cells [.v (.int .i64 l),.v (.int .i64 (2*n))],.cells [.v (.int .i64 l),.v (.int .i64 (2*n+1))]]) (by omega) (by omega) (by omega)
     (λt q ht J=>hY t q (by rw[ov (oM.1 ht).1];exact ht) J) (AV _ hi) (AV _ hj)
    obtain⟨J3,g2⟩:=ih (2*n+1) (k+(Cr a b l (2*n)).length) (J++[.cells [.v (.int .i64 (l+1:Nat)),.v (.int .i64 n)],.cells [.v (.int .i64 l),.v (.int .i64 (2*n))],.cells [.v (.int .i64 l),.v (.int .i64 (2*n+1))]]++J1) (by omega) (by omega) (by omega)
     (λt q ht J=>by
      have:=hY ((Cr a b l (2*n)).length+t) q (by rw[pC (by omega)];simpa using ht) J;simpa[Nat.add_assoc]using this) (AV _ (AV _ hi)) (AV _ (AV _ hj))
    rw[oL,←Nat.add_assoc];rw[←oR (S k)]at g1;refine⟨[.cells [.v (.int .i64 (l+1:Nat)),.v (.int .i64 n)],.cells [.v (.int .i64 l),.v (.int .i64 (2*n))],.cells [.v (.int .i64 l),.v (.int .i64 (2*n+1))]]++J1++J3,du (Sn (l+1) n hl h0 h1) (Up (l+1) n hl h0 h1) (AV _ (hx k)) (AV _ (hy k)) (by rw[get k j u J hu];exact hj) (by omega) (by omega) (by omega) q3 g1 (by rw[get _ j u _ hu];exact AV _ (AV _ hj)) ?_ ?_⟩
    ·rw[oL,hL,get _ (J.length+2) _ _ (by omega)];refine AV _ ?_;rw[pC (by omega)];simp
    ·simpa[oR]using g2
theorem fW (a b:Int) (hab:a≤b) (S:Nat→List Row) (L x y r:Nat) (hL:∀k,(S k).length=L) (hx:∀k,(S k)[x]?=some (.cells [.v (.int .i64 a)])) (hy:∀k,(S k)[y]?=some (.cells [.v (.int .i64 b)]))
  (hY:∀t q,(Cr a b 12 0)[t]?=some q→∀J,∃J2,Nk Tryz.prog Ah r [.v (Cz q.1 q.2)] (S t++J) true (S (t+1)++(J++J2))):
  ∃J',FX 301 [.yld r,.ref x 0,.ref y 0] (S 0) [] (S (Cr a b 12 0).length++J'):=by
 obtain⟨J',q⟩:=fV a b hab S L x y r L (L+1) hL hx hy 12 0 0 [.cells [.yld r],.cells [.func 302 [.ref x 0,.ref y 0,.ref L 0,.ref (L+1) 0]]] 0 1 (by omega) (by omega) (by decide) (by simpa using hY) rfl rfl rfl rfl;refine⟨[.cells [.yld r],.cells [.func 302 [.ref x 0,.ref y 0,.ref L 0,.ref (L+1) 0]]]++J',Dh 301 ?_⟩;simp[Cz]at q;generalize (Cr a b 12 0).length=N at*;have h0:=hL 0;generalize S 0=S0 at*;subst h0;simp only[Ai 301,AE,AF,AA 301 0,AA 301 1,AA 301 2,AA 301 3,AQ];simp[AO,D.vs?,D.v?];refine⟨⟨_,q⟩,?_⟩
 try simp[AW 301]
end
end Go.Va
