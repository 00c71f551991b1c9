/- Laws that ExtractAnswers leans on, part 18. No condition of its own. -/
import Derived.Test.YtopldfpkgbkomaaGreatDoorL04
import Derived.Test.YtopldfpkgbkomaaGreatDoorL13
import Derived.Test.YtopldfpkgbkomaaGreatDoorL17
set_option linter.all false
set_option maxRecDepth 100000
set_option maxHeartbeats 4000000
noncomputable section
namespace Go.Va
open Go.Proofs
def E7:V:= .list [.list [],.list [.int .i64 0],.list [.int .i64 0],.list [.int .i64 1,.int .i64 2],.list [],.list [.int .i64 4]]
theorem dR:PX 16 [] [E7]:=by
 refine BJ 16 ?_;simp[Ai 16,AE,AF,AB,AA 16 0,AA 16 1,AW 16,AX,E7]
def HI (n:Int):Int:=([0,7,8,4095,2047][n.toNat]?).getD 0
def Cp (l:List Int) (i:Nat):Rgt:=
 let r:=D7 (l.drop (min l.length (1+4*i)))
 {r with file:=HI ((i+Ae l 0 5).tmod 5),force:=if i%2=0 then 0 else r.force}
def Aj (l:List Int):List Rgt:=((List.range (Ae l 0 5).toNat).map (Cp l)).filter Aw
theorem Jy (l:List Int) (i:Nat):(Cp l i).tiny 3:=by
 have h:=PQ (l.drop (min l.length (1+4*i)));refine⟨?_,h.state,?_,h.claims,h.dates,h.bad,h.owners,h.lics,h.lc,h.ld,h.lb,h.lo,h.ll⟩
 ·simp only[Cp,HI];generalize ((i+Ae l 0 5).tmod 5).toNat=k
  match k with
  |0|1|2|3|4=>simp[i64]
  |k+5=>simp[i64]
 ·simp only[Cp];split
  ·simp[i64]
  ·exact h.force
def Yr:AC:=(.seq (.reg (oG 10 6) [0,3,4,5,6]) (.seq (.reg (oG 10 7) [0,3,4,5,6]) (.seq (.seq (.reg (oG 10 8) [0,3,4,5,6,34]) (.cond (.t 34 false) (.reg (oG 10 9) [0,3,4,5,6]) .skip)) (.seq (.reg (oG 10 10) [0,3,4,5,6,7]) (.seq (.reg (oG 10 11) [0,3,4,5,6,38]) (.cond (.t 38 false) (.reg (oG 10 12) [0,3,4,5]) .skip))))))
theorem T5:(lG 10 0)=(.seq (.seq (.reg (oG 10 4) [0,3,4,5,12]) (.cond (.t 12 false) .skip (.exit 0))) (.seq (.block 1 Yr) (.reg (oG 10 5) [0,3,4,5]))):=(A8 10 0 :)
theorem kX (l:List Int) (n:Int) (k:Nat) (A:List Rgt) (J:List Row) (hk:k <n.toNat) (hn5:n <5) (hA:A.length≤k) (S Q:Rgt)
  (hr:Q={S with file:=HI ((k+n).tmod 5),force:=if k%2=0 then 0 else S.force})
  (p2:PX 48 [AH .i64 (l.drop (min l.length (1+4*k)))] [S.V])
  (p3:PX 49 [Q.V] [.bool (Aw Q)]) (K:AExit→St→Prop)
  (hK:∀e J',AG e 0= .v (AH .i64 l)→AG e 3= .own 32 8 ((A++(if Aw Q then [Q] else [])).map Rgt.V)→AG e 4= .v (.int .i64 n)→AG e 5= .v (.int .i64 k)→K .normal ⟨e,J'⟩):
  ∀e,AG e 0= .v (AH .i64 l)→AG e 3= .own 32 8 (A.map Rgt.V)→AG e 4= .v (.int .i64 n)→AG e 5= .v (.int .i64 k)→awp Tryz.prog Ah Yr K ⟨e,J⟩:=by
 intro e f0 f3 f4 f5;have v2:IntKind.i64.wrap (4*(k:Int))=4*k:=AL;have v3:IntKind.i64.wrap (1+4*(k:Int))=1+4*k:=AL;have v4:IntKind.i64.wrap ((k:Int)+n)=k+n:=AL;have hroom:AU (A.length+1) 144=true:=by simp[AU];omega
 have hmin:(if 1+4*(k:Int) <(l.length:Int) then 1+4*(k:Int) else (l.length:Int))=(min l.length (1+4*k):Nat):=by split<;>omega
 have p2:=p2.fsp;have p3:=p3.fsp;have hlen:min l.length (1+4*k)≤l.length:=Nat.min_le_left _ _;generalize min l.length (1+4*k)=m at*;simp[AH,Rgt.V,Rgt.cs]at p2 p3 f0;unfold Yr;simp only[AE,AF,AK,AA 10 6];have htk:(l.map (V.int .i64)).take l.length=l.map (V.int .i64):=o6 (by simp);simp[v2,v3,hmin,hlen,htk,f0,f5];refine⟨_,_,p2 _,?_⟩;have t0:0≤((k:Int)+n).tmod 5:=sM _ (by omega);have t1:([V.int .i64 0,V.int .i64 7,V.int .i64 8,V.int .i64 4095,V.int .i64 2047])[(((k:Int)+n).tmod 5).toNat]?=some (.int .i64 (HI (((k:Int)+n).tmod 5))):=by
  have t2:=SE ((k:Int)+n) 5 (by decide);unfold HI;obtain⟨q,hq⟩:∃q,(((k:Int)+n).tmod 5).toNat=q:=⟨_,rfl⟩;rw[hq];have:q <5:=by omega
  match q,this with
  |0,_|1,_|2,_|3,_|4,_=>rfl
 generalize HI (((k:Int)+n).tmod 5)=fl at*;simp[AO,AA 10 7,v4,t0,t1,f0,f3,f4,f5];have hcl:∀f:Int,Q.claims=S.claims∧Q.dates=S.dates∧Q.bad=S.bad∧Q.owners=S.owners∧Q.lics=S.lics∧Q.file=fl∧Q.state=S.state∧Q.force=if k%2=0 then 0 else S.force:=by subst hr;simp
 obtain⟨e1,e2,e3,e4,e5,e6,e7,e8⟩:=hcl 0;rw[e1,e2,e3,e4,e5,e6,e7,e8]at p3;have hk2:(k:Int).tmod 2=0↔k%2=0:=by rw[sJ (by omega)];omega
 by_cases h2:k%2=0
 ·rw[if_pos h2]at p3 e8;have h2':=hk2.2 h2;simp[AA 10 8,h2',AA 10 9,AO,AA 10 10,D.vs?,D.v?];refine⟨_,_,(p3 _),?_⟩;cases hf:Aw Q with
  |false=>
   rw[hf]at hK;simp[AA 10 11,AD];exact hK _ _ (by simp[AH]) (by simp) (by simp) (by simp)
  |true=>
   rw[hf]at hK;simp[AA 10 11,AA 10 12,hroom,D.vs?,D.v?];exact hK _ _ (by simp[AH]) (by simp[Rgt.V,Rgt.cs,e1,e2,e3,e4,e5,e6,e7,e8,AH]) (by simp) (by simp)
 ·rw[if_neg h2]at p3 e8;have h2':¬(k:Int).tmod 2=0:=λh=>h2 (hk2.1 h);simp[AA 10 8,h2',AD,AA 10 10,D.vs?,D.v?];refine⟨_,_,(p3 _),?_⟩;cases hf:Aw Q with
  |false=>
   rw[hf]at hK;simp[AA 10 11];exact hK _ _ (by simp[AH]) (by simp) (by simp) (by simp)
  |true=>
   rw[hf]at hK;simp[AA 10 11,AA 10 12,hroom,D.vs?,D.v?];exact hK _ _ (by simp[AH]) (by simp[Rgt.V,Rgt.cs,e1,e2,e3,e4,e5,e6,e7,e8,AH]) (by simp) (by simp)
theorem dS (l:List Int):PX 10 [AH .i64 l] [.list ((Aj l).map Rgt.V)]:=by
 refine BJ 10 ?_;have p1:=(QT l 0 5 (by decide)).fsp;have hn:=EU l 0 5 (by decide);have hrf:∀i:Nat,Cp l i={D7 (l.drop (min l.length (1+4*i)))with file:=HI ((i+Ae l 0 5).tmod 5),force:=if i%2=0 then 0 else (D7 (l.drop (min l.length (1+4*i)))).force}:=λ_=>rfl;have hres:Aj l=((List.range (Ae l 0 5).toNat).map (Cp l)).filter Aw:=rfl;generalize Aj l=R at*;generalize Ae l 0 5=n at*;simp[AH]at p1;simp only[Ai 10,AE,AF,AM,AA 10 0,AA 10 1,AX];simp[AA 10 2,AH];refine⟨_,_,p1 _,?_⟩;simp[AA 10 3];refine AY n.toNat (λk s=>s.e=[(0,.v (AH .i64 l)),(3,.own 32 8 ((((List.range k).map (Cp l)).filter Aw).map Rgt.V)),(4,.v (.int .i64 n)),(5,.v (.int .i64 k))]) (by simp[AH]) ?_;rintro k ⟨se,sh⟩ hk he;simp only at he;subst he;simp only[Zw,T5,AA 10 4];simp;by_cases hlt:k <n.toNat
 ·have v1:=Bb k;have v2:IntKind.i64.wrap (4*(k:Int))=4*k:=AL;have v3:IntKind.i64.wrap (1+4*(k:Int))=1+4*k:=AL;have v4:IntKind.i64.wrap ((k:Int)+n)=k+n:=AL;have hr:=hrf k;have hle:(((List.range k).map (Cp l)).filter Aw).length≤k:=by have:=pG Aw ((List.range k).map (Cp l));simpa using this
  have hsucc:((List.range (k+1)).map (Cp l)).filter Aw=((List.range k).map (Cp l)).filter Aw++(if Aw (Cp l k) then [Cp l k] else []):=by
   rw[po,oh,pw];simp[qt]
  rw[hsucc];have p2:=nJ (l.drop (min l.length (1+4*k)));have p3:=mA (Cp l k) ((Jy l k).ok (by decide));generalize ((List.range k).map (Cp l)).filter Aw=A at*;generalize Cp l k=Q at*;generalize D7 (l.drop (min l.length (1+4*k)))=S at*;rw[if_pos (by omega),AD];simp only[];refine kX l n k A _ hlt hn.2 hle S Q hr p2 p3 _ ?_ _ (by simp[AH]) (by simp) (by simp) (by simp);intro e J' f0 f3 f4 f5;simp only[AH]at f0;simp only[];simp[AA 10 5,v1,f0,f3,f4,f5,AH];omega
 ·have:k=n.toNat:=by omega
  subst this;rw[if_neg (by omega),AJ];simp[AA 10 13,AB,AW 10,hres]
section
variable {k:Nat}
theorem LG {α:Type} {l:List α} {x:α} (h:l[k]?=some x) (f:α→V):(l.map f).take (k+1)=(l.map f).take k++[f x]:=by
 rw[oW,oX,h];rfl
theorem nn (Z:List D):
  awp Tryz.prog Ah (.loop (lG 46 0)) (λe s=>e= .exit 0∧AG s.e 5= .ref 0 0∧s.h=[.cells (.own 22 1 (Dc.map (AH .i64))::Z)])
   ⟨[(4,.v (.int .i64 6)),(5,.ref 0 0),(14,.v (.list (Dc.map (AH .i64)))),(15,.v (.int .i64 6)),(16,.v (.int .i64 0))],[.cells (.own 22 1 []::Z)]⟩:=by
 refine AN 6 (λk=>⟨[(4,.v (.int .i64 6)),(5,.ref 0 0),(14,.v (.list (Dc.map (AH .i64)))),(15,.v (.int .i64 6)),(16,.v (.int .i64 k))],[.cells (.own 22 1 ((Dc.take k).map (AH .i64))::Z)]⟩) (by simp) ?_;intro k hk;simp only[Zw,A8 46 0,AA 46 6];simp;have hp6:Dc.length=6:=rfl;by_cases hlt:k <6
 ·obtain⟨ps,hps⟩:∃ps,Dc[k]?=some ps:=⟨_,oI (by omega)⟩;have hmem:=oK hps;have p1:=(aL ps hmem).fsp;have p2:=(aK ps hmem).fsp;have p3:=aJ ps hmem;have hw:=Bb k;have e:=LG hps (AH .i64);have hm:min k Dc.length=k:=by omega
  have hroom:AU (k+1) 24=true:=by simp[AU];omega
  generalize Dc=par at*;rw[if_pos (by omega),AD];simp only[AA 46 7];simp only[AH]at p1 p2 p3 e;simp at p1 p2;simp[hps,AH];simp only[AA 46 8];simp;refine⟨_,_,(p1 _),?_⟩;simp;refine⟨_,_,(p2 _),?_⟩;simp[AD,AS,AA 46 10];refine⟨_,_,⟨rfl,rfl⟩,_,p3,?_⟩;simp[hm,hroom,AA 46 11,hw,hlt,e]
 ·have:k=6:=by omega
  subst this;rw[if_neg (by omega),AJ];have:(Dc.map (AH .i64)).take 6=Dc.map (AH .i64):=rfl;simp[this]
def zb:List Bool:=List.replicate 4096 false
def zD:List D:=List.replicate 4096 (.v (.bool false))
theorem ZL:zD=zb.map bv:=by rw[zD,zb,List.map_replicate]
theorem W1:zD.map D.toRow=zD:=by rw[zD,List.map_replicate];rfl
theorem R6:zb.length=4096:=by rw[zb,List.length_replicate]
def Ts:List GI:=[⟨none,.p 12 (.build (.nil 22 1::zD) [])⟩,⟨none,.box 13 (.t 12 false)⟩,⟨none,.mv 5 (.t 13 false)⟩]
theorem Tq:(oG 46 4)=Ts:=(AA 46 4 :)
theorem mB:FX 46 [.v (.list (Dc.map (AH .i64)))] [] [.ref 0 0,.v (.int .i64 0)] (CI (Ch 6 zb) (FN 6) (FN 6)):=by
 refine Dh 46 ?_;have q:=nn zD;have q2:=je zb R6;rw[ME,←ZL,G3]at q2;generalize CI (Ch 6 zb) (FN 6) (FN 6)=HH at*;have hp6:Dc.length=6:=rfl;have hz:=W1;simp only[Zw,Ai 46,AA 46 0,AA 46 1,AQ];rw[Tq];unfold Ts;generalize zD=Z at*;generalize Dc=par at*;simp[hp6,AA 46 2,AD];simp[hz,AA 46 5,hp6];refine Ad _ ?_ q;rintro e ⟨se,sh⟩ ⟨rfl,f5,hh⟩;simp only at f5 hh;subst hh;simp[AA 46 12,f5];refine⟨_,_,q2,?_⟩;simp[AA 46 14,AB,AW 46,f5]
theorem p9:FX 9 [] [] [.ref 0 0] [.dead]:=by
 have key:FX 9 [] [] [.ref 0 0] [ME (Ch 6 zb)]:=by
  refine Ak (D4 9) rfl (by simp) ?_ ?_ ?_
  ·intro row hrow;simp only[oS]at hrow;subst hrow;simp only[ME,Row.low];refine Et λd hd=>?_;rcases oO.1 hd with rfl|hd
   ·rfl
   ·obtain⟨b,-,rfl⟩:=oP.1 hd;rfl
  ·intro d hd;simp only[oS]at hd;subst hd;rfl
  have q1:=dR.fsp;have q2:=mB;have e:E7= .list (Dc.map (AH .i64)):=rfl;rw[e]at q1;have hJ:∃J,CI (Ch 6 zb) (FN 6) (FN 6)=[ME (Ch 6 zb)]++J:=⟨_,rfl⟩;generalize CI (Ch 6 zb) (FN 6) (FN 6)=HH at*;generalize ME (Ch 6 zb)=TX at*;generalize Dc=par at*;simp at q1 hJ;simp only[Ai 9,AE,AF,AK,AA 9 0,AA 9 1,AQ];simp;refine⟨_,_,(q1 _),?_⟩;simp;refine⟨_,_,q2,?_⟩;simp[AA 9 2,AD,AA 9 4,AB,AW 9,hJ]
 exact key.kill 0
end
theorem TA {k:Int} (h:Xw k=true):i64 k:=by simpa[Xw,i64]using h
theorem Y6:∀f args h x,lY f args h=some x→∀t,OKT t h→FX f args (t.ins Tryz.prog Ah h) x.1 (t.ins Tryz.prog Ah h++x.2):=by
 intro f args h x hx t hk;unfold lY at hx;split at hx
 ·rename_i hf;subst hf;split at hx
  ·simp only[oH]at hx;subst hx;have ht:t=[]:=by
    cases t with
    |nil=>rfl
    |cons y t=>have:=hk.dead y.1 (by simp[Lp.has]);simp at this
   subst ht;exact p9
  ·cases hx
 ·split at hx
  ·rename_i hf;subst hf;split at hx
   ·rename_i r;split at hx
    ·rename_i m hr;have hr':=hk.get (P:=Tryz.prog) (GL:=Ah) hr (by simp);split at hx
     ·rename_i st ck hm;have hm':=hk.get (P:=Tryz.prog) (GL:=Ah) hm (by simp);simp only[oH]at hx;subst hx;simpa using Zi (ks:=[]) hr' hm' rfl (by simp) (by simp)
     ·rename_i k v st ck hm;have hm':=hk.get (P:=Tryz.prog) (GL:=Ah) hm (by simp);split at hx
      ·rename_i hk2;simp only[oH]at hx;subst hx;simpa using Zi (ks:=[k]) hr' hm' rfl (by simp) (by simpa using TA hk2)
      ·cases hx
     ·cases hx
    ·cases hx
   ·cases hx
  ·cases hx
theorem nQ:PX 20 [] [.bool true]:=Fm O9 Y6 oC
theorem me:FX 9 [] [] [.ref 0 0] [ME (Ch 6 zb)]:=by
 refine Ak (D4 9) rfl (by simp) ?_ ?_ ?_
 ·intro row hrow;simp only[oS]at hrow;subst hrow;simp only[ME,Row.low];refine Et λd hd=>?_;rcases oO.1 hd with rfl|hd
  ·rfl
  ·obtain⟨b,-,rfl⟩:=oP.1 hd;rfl
 ·intro d hd;simp only[oS]at hd;subst hd;rfl
 have q1:=dR.fsp;have q2:=mB;have e:E7= .list (Dc.map (AH .i64)):=rfl;rw[e]at q1;have hJ:∃J,CI (Ch 6 zb) (FN 6) (FN 6)=[ME (Ch 6 zb)]++J:=⟨_,rfl⟩;generalize CI (Ch 6 zb) (FN 6) (FN 6)=HH at*;generalize ME (Ch 6 zb)=TX at*;generalize Dc=par at*;simp at q1 hJ;simp only[Ai 9,AE,AF,AK,AA 9 0,AA 9 1,AQ];simp;refine⟨_,_,(q1 _),?_⟩;simp;refine⟨_,_,q2,?_⟩;simp[AA 9 2,AD,AA 9 4,AB,AW 9,hJ]
def Dn (ps:List V) (bs:List Bool):Row:= .cells (.own 22 1 ps::bs.map bv)
theorem ei (ps:List V) (bs:List Bool) (h:List Row) (x:Nat) (hx:h[x]?=some (Dn ps bs)):FX 69 [.ref x 0] h [.v (.int .i64 ps.length)] h:=by
 refine Dh 69 ?_;simp[Ai 69,awp,AA 69 0,AA 69 1,AW 69,AQ,hx,Dn]
theorem iZ (c n:Int) (h:List Row) (q:Nat) (hq:h[q]?=some (.cells [.v (.int .i64 n)])):FX 208 [.v (.int .i64 c),.ref q 0] h [.v (.bool (decide (c <0∨n≤c)))] h:=by
 refine Dh 208 ?_;by_cases h1:c <0
 ·simp[Ai 208,awp,AA 208 0,AA 208 1,AW 208,AQ,h1]
 ·simp[Ai 208,awp,AA 208 0,AA 208 1,AW 208,AQ,hq,h1]
theorem jf (n:Int) (l:List Int) (hn:l.length <2^40):PX 120 [.int .i64 n,AH .i64 l] [.bool (l.all λc=>decide (0≤c∧c <n))]:=by
 refine BJ 120 ?_;have hidx:IdxR Tryz.prog Ah 208 [.ref 0 0] (l.map (V.int .i64)) [.cells [.v (.int .i64 n)]] (l.findIdx? λx=> !decide (0≤x∧x <n)) [.cells [.v (.int .i64 n)]]:=
  IdxR.map λx hx=>by
   have:=iZ x n [.cells [.v (.int .i64 n)]] 0 rfl;have e:(decide (x <0∨n≤x))= !decide (0≤x∧x <n):=by
    by_cases h1:x <0∨n≤x
    ·have h2:¬(0≤x∧x <n):=by omega
     rw[decide_eq_true h1,decide_eq_false h2];rfl
    ·have h2:0≤x∧x <n:=by omega
     rw[decide_eq_false h1,decide_eq_true h2];rfl
   rw[e]at this;exact this
 have hcf:=Ut (.func 208 [.ref 0 0]) 208 [.ref 0 0] (FV.r 208 0 0 []) (l.map (V.int .i64)) (by simpa using hn) (by
  intro x hx;obtain⟨y,_,rfl⟩:=oP.1 hx;exact⟨_,rfl⟩) hidx
 rw[Fa]at hcf;simp only[Ai 120,AE,AF,AA 120 0,AA 120 1,AX];simp[AH]
 try simp at hcf
 refine⟨_,_,hcf,?_⟩;simp[AB,AW 120,CR]
def CO (n:Nat) (bs:List Bool) (c d:Int):Bool:=decide (0≤c∧c <n)&&(decide (0≤d∧d <n)&&(bs[(c*64+d).toNat]?).getD false)
theorem jK (ps:List V) (bs:List Bool) (hps:ps.length≤64) (hbs:bs.length=4096) (h:List Row) (x:Nat) (hx:h[x]?=some (Dn ps bs)) (c d:Int):
  FX 157 [.ref x 0,.v (.int .i64 c),.v (.int .i64 d)] h [.v (.bool (CO ps.length bs c d))] h:=by
 refine Dh 157 ?_;have q1:=ei ps bs h x hx;have q2:=(jf ps.length [c,d] (by simp)).fsp;simp[AH]at q2;have hlen:(bs.map bv).length=4096:=by rw[oi,hbs]
 simp only[Ai 157,AE,AF,AA 157 0,AQ];simp;simp only[AA 157 1];simp;refine⟨_,_,q1,?_⟩;simp;refine⟨_,_,q2 _,?_⟩;unfold CO;by_cases h1:0≤c∧c <ps.length
 ·by_cases h2:0≤d∧d <ps.length
  ·have k1:c <64:=by omega
   have k2:d <64:=by omega
   have e1:(c*64+d).toNat=c.toNat*64+d.toNat:=by omega
   have e2:1+c.toNat*64+d.toNat=(c.toNat*64+d.toNat)+1:=by omega
   obtain⟨b,hb⟩:∃b,bs[c.toNat*64+d.toNat]?=some b:=⟨_,oI (by rw[hbs];omega)⟩;have k3:1+c.toNat*64+d.toNat≤bs.length:=by rw[hbs];omega
   rw[e1,hb];simp[h1,h2,hx,Dn,k1,k2];rw[e2]at k3 ⊢;simp[hb,k3,bv,AB,AW 157]
  ·have h3:0≤d→(ps.length:Int)≤d:=by omega
   simp[h1,h2,AB,AW 157];exact h3
 ·simp[h1,AB,AW 157]
section
mutual
def F.hold (I:Int→Int→Bool):F→Th→Bool
 | .mk op n ins kids,t=>
  if op=1 then t.cs.any λc=>I c n
  else if op=2 then (Kq t n).isSome&&Pn ins (Fy t n).1 (Fy t n).2
  else if op=3 then t.ps.any λp=>F.hold1 I kids p
  else if op=4 then F.holdA I kids t
  else if op=5 then F.holdO I kids t
  else if op=6 then !F.hold1 I kids t
  else true
def F.hold1 (I:Int→Int→Bool):List F→Th→Bool|[],_=>false|k::_,t=>k.hold I t
def F.holdA (I:Int→Int→Bool):List F→Th→Bool|[],_=>true|k::ks,t=>k.hold I t&&F.holdA I ks t
def F.holdO (I:Int→Int→Bool):List F→Th→Bool|[],_=>false|k::ks,t=>k.hold I t||F.holdO I ks t
end
theorem Jf (I:Int→Int→Bool) (t:Th):∀l,F.holdA I l t=l.all λk=>k.hold I t
 |[]=>rfl
 |k::ks=>by simp[F.holdA,Jf I t ks]
theorem Je (I:Int→Int→Bool) (t:Th):∀l,F.holdO I l t=l.any λk=>k.hold I t
 |[]=>rfl
 |k::ks=>by simp[F.holdO,Je I t ks]
variable {h:List Row}
theorem Low.apps {X:List Row} (hl:Low h) (hx:∀row∈X,Row.low (h.length+X.length) row=true):Low (h++X):=by
 intro row hrow;rw[oL];rcases oc.1 hrow with h1|h1
 ·exact Iv (Nat.le_add_right _ _) row (hl row h1)
 ·exact hx row h1
variable {n:Nat}
theorem J7:∀(xs:List V),D.lts n (xs.map .v)=true:=λxs=>Et λd hd=>by
 obtain⟨x,_,rfl⟩:=oP.1 hd;rfl
theorem LI (n:Nat) (f:F):Row.low n (.cells f.cells)=true:=by
 obtain⟨op,k,ins,kids⟩:=f;simp[F.cells,Row.low,D.lts,D.lt]
theorem G5 (n:Nat) (t:Th):Row.low n (.cells t.cells)=true:=by
 obtain⟨cs,vs,ps⟩:=t;simp[Th.cells,Row.low,D.lts,D.lt,AH]
section
variable {ps:List V} {bs:List Bool} {H:List Row} {a b x:Nat}
theorem jM (g:F) (t:Th) (ha:H[a]?=some (.cells [.ref x 0])) (hb:H[b]?=some (.cells t.cells)) (hl:Low H) (R:Bool)
  (hp:FX 71 [.ref x 0,.v g.V,.v t.V] (H++[.cells g.cells]) [.v (.bool R)] (H++[.cells g.cells])):
  FX 155 [.v g.V,.ref a 0,.ref b 0] H [.v (.bool R)] H:=by
 refine Ak (D4 155) rfl (oN _) hl (by simp[D.lt]) ?_;have ha':=AV [.cells g.cells] ha;have hb':=AV [.cells g.cells] hb;obtain⟨op,n,ins,kids⟩:=g;obtain⟨cs,vs,pa⟩:=t;simp only[F.cells,F.op,F.n,F.ins,F.kids,F.V_eq,Th.cells,Th.cs,Th.vs,Th.ps,Th.V_eq]at*;simp only[Ai 155,AE,AF,AA 155 0,AA 155 1,AQ];simp[AH]at hp ha' hb' ⊢;simp[ha',hb'];refine⟨_,_,hp,?_⟩;simp[AB,AW 155]
theorem jG (g:F) (c:Nat) (hc:H[c]?=some (.cells [.func 155 [.ref a 0,.ref b 0]])) (hl:Low H) (R:Bool)
  (hp:FX 155 [.v g.V,.ref a 0,.ref b 0] (H++[.cells g.cells]) [.v (.bool R)] (H++[.cells g.cells])):
  FX 161 [.v g.V,.ref c 0] H [.v (.bool (!R))] H:=by
 refine Ak (D4 161) rfl (oN _) hl (by simp[D.lt]) ?_;have hc':=AV [.cells g.cells] hc;obtain⟨op,n,ins,kids⟩:=g;simp only[F.cells,F.op,F.n,F.ins,F.kids,F.V_eq]at*;simp only[Ai 161,AE,AF,AA 161 0,AA 161 1,AQ];simp at hp hc' ⊢;simp[hc',D.vs?,D.v?];refine⟨_,_,hp,?_⟩;simp[AB,AW 161]
theorem jL (f:F) (hps:ps.length≤64) (hbs:bs.length=4096) (hx:H[x]?=some (Dn ps bs)) (ha:H[a]?=some (.cells [.ref x 0])) (hb:H[b]?=some (.cells f.cells)) (c:Int):
  FX 156 [.v (.int .i64 c),.ref a 0,.ref b 0] H [.v (.bool (CO ps.length bs c f.n))] H:=by
 refine Dh 156 ?_;have hp:=jK ps bs hps hbs H x hx c f.n;obtain⟨op,n,ins,kids⟩:=f;simp only[F.cells,F.op,F.n,F.ins,F.kids]at*;simp only[Ai 156,AE,AF,AA 156 0,AA 156 1,AQ];simp[ha,hb];refine⟨_,_,hp,?_⟩;simp[AB,AW 156]
theorem jH (op n:Int) (ins:List Ivl) (k:F) (ks:List F) (t:Th) (ha:H[a]?=some (.cells [.ref x 0])) (hb:H[b]?=some (.cells (F.mk op n ins (k::ks)).cells)) (hl:Low H) (R:Bool)
  (hp:FX 71 [.ref x 0,.v k.V,.v t.V] (H++[.cells t.cells]) [.v (.bool R)] (H++[.cells t.cells])):
  FX 160 [.v t.V,.ref a 0,.ref b 0] H [.v (.bool R)] H:=by
 refine Ak (D4 160) rfl (oN _) hl (by simp[D.lt]) ?_;have ha':=AV [.cells t.cells] ha;have hb':=AV [.cells t.cells] hb;obtain⟨op',n',ins',kids'⟩:=k;obtain⟨cs,vs,pa⟩:=t;simp only[F.cells,F.op,F.n,F.ins,F.kids,F.V_eq,Th.cells,Th.cs,Th.vs,Th.ps,Th.V_eq,oV]at*;simp only[Ai 160,AE,AF,AS,AA 160 0,AA 160 1,AQ];simp[AH]at hp ha' hb' ⊢;simp[ha',hb'];refine⟨_,_,hp,?_⟩;simp[AB,AW 160]
end
end
section
def hZ (h:List Row) (x:Nat) (f:F) (t:Th):List Row:=[.cells [.ref x 0],.cells f.cells,.cells t.cells,.cells [.func 155 [.ref h.length 0,.ref (h.length+2) 0]]]
variable {h:List Row}
theorem Po {x:Nat} (f:F) (t:Th) (hl:Low h) (hx:x <h.length):Low (h++hZ h x f t):=by
 refine hl.apps λrow hrow=>?_;simp only[hZ,oO,o7,or_false]at hrow;rcases hrow with rfl|rfl|rfl|rfl
 ·simp[Row.low,D.lts,D.lt,hZ];omega
 ·exact LI _ f
 ·exact G5 _ t
 ·simp[Row.low,D.lts,D.lt,hZ]
theorem YD {x:Nat} {r:Row} (f:F) (t:Th) (hx:h[x]?=some r):(h++hZ h x f t)[x]?=some r:=AV _ hx
theorem YE (h:List Row) (x:Nat) (f:F) (t:Th):(h++hZ h x f t)[h.length]?=some (.cells [.ref x 0]):=by simp[hZ]
theorem cC (h:List Row) (x:Nat) (f:F) (t:Th):(h++hZ h x f t)[h.length+1]?=some (.cells f.cells):=by simp[hZ]
theorem lI (h:List Row) (x:Nat) (f:F) (t:Th):(h++hZ h x f t)[h.length+2]?=some (.cells t.cells):=by simp[hZ]
theorem lH (h:List Row) (x:Nat) (f:F) (t:Th):(h++hZ h x f t)[h.length+3]?=some (.cells [.func 155 [.ref h.length 0,.ref (h.length+2) 0]]):=by simp[hZ]
def Qz (ps:List V) (bs:List Bool) (f:F):Prop:=∀t:Th,t.ok→∀(h:List Row) (x:Nat),h[x]?=some (Dn ps bs)→Low h→
 FX 71 [.ref x 0,.v f.V,.v t.V] h [.v (.bool (f.hold (CO ps.length bs) t))] h
variable {ps:List V}
theorem YC {bs:List Bool} (f:F) (cs:List Int) (vs:List Val) (pa:List Th) (h:List Row) (x:Nat) (hx:h[x]?=some (Dn ps bs)) (hps:ps.length≤64) (hbs:bs.length=4096) (hn:cs.length≤2^30):
  FX 151 [.v (AH .i64 cs),.func 156 [.ref h.length 0,.ref (h.length+1) 0]] (h++hZ h x f (.mk cs vs pa)) [.v (.bool (cs.any λc=>CO ps.length bs c f.n))] (h++hZ h x f (.mk cs vs pa)):=by
 have hidx:IdxR Tryz.prog Ah 156 [.ref h.length 0,.ref (h.length+1) 0] (cs.map (.int .i64)) (h++hZ h x f (.mk cs vs pa)) (cs.findIdx? λc=>CO ps.length bs c f.n) (h++hZ h x f (.mk cs vs pa)):=
  IdxR.map λc _=>jL f hps hbs (YD f _ hx) (YE h x f _) (cC h x f _) c
 have:=Ut _ 156 _ (FV.r 156 h.length 0 [.ref (h.length+1) 0]) (cs.map (.int .i64)) (by simp;omega) (by
  intro x hx;obtain⟨y,_,rfl⟩:=oP.1 hx;exact⟨_,rfl⟩) hidx
 rw[Cl]at this;exact this
theorem YB {bs:List Bool} (cs:List Int) (vs:List Val) (pa:List Th) (h:List Row) (x:Nat) (hx:h[x]?=some (Dn ps bs)) (hl:Low h) (op n:Int) (ins:List Ivl) (k:F) (ih:Qz ps bs k) (hn:pa.length≤2^30) (hp:∀p∈pa,p.ok):
  FX 153 [.v (.list (pa.map Th.V)),.func 160 [.ref h.length 0,.ref (h.length+1) 0]] (h++hZ h x (.mk op n ins [k]) (.mk cs vs pa)) [.v (.bool (pa.any λp=>k.hold (CO ps.length bs) p))] (h++hZ h x (.mk op n ins [k]) (.mk cs vs pa)):=by
 have hlow:=Po (.mk op n ins [k]) (.mk cs vs pa) hl (Cg hx);have hidx:IdxR Tryz.prog Ah 160 [.ref h.length 0,.ref (h.length+1) 0] (pa.map Th.V) (h++hZ h x (.mk op n ins [k]) (.mk cs vs pa)) (pa.findIdx? λp=>k.hold (CO ps.length bs) p) (h++hZ h x (.mk op n ins [k]) (.mk cs vs pa)):=
  IdxR.map λp hm=>jH op n ins k [] p (YE h x _ _) (cC h x _ _) hlow _ (ih p (hp p hm) _ x (AV _ (YD _ _ hx)) (hlow.app (G5 _ p)))
 have:=XT _ 160 _ (FV.r 160 h.length 0 [.ref (h.length+1) 0]) (pa.map Th.V) (by simp;omega) (by
  intro x hx;obtain⟨y,_,rfl⟩:=oP.1 hx;exact y.V3) hidx
 rw[Cl]at this;exact this
theorem TN {bs:List Bool} (f:F) (h:List Row) (x:Nat) (hx:h[x]?=some (Dn ps bs)) (hl:Low h) (k:F) (ih:Qz ps bs k) (t:Th) (ht:t.ok) (X:List Row) (hX:∀row∈X,∃g:F,row= .cells g.cells):
  FX 155 [.v k.V,.ref h.length 0,.ref (h.length+2) 0] (h++hZ h x f t++X) [.v (.bool (k.hold (CO ps.length bs) t))] (h++hZ h x f t++X):=by
 have hlow:=(Po f t hl (Cg hx)).apps (X:=X) (by
  intro row hrow;obtain⟨g,rfl⟩:=hX row hrow;exact LI _ g)
 exact jM k t (AV _ (YE h x f t)) (AV _ (lI h x f t)) hlow _ (ih t ht _ x (AV _ (AV _ (YD f t hx))) (hlow.app (LI _ k)))
theorem WR (kids:List F):∀x∈kids.map F.V,∃cs,x=V.agg cs∧cs.length=4:=by
 intro x hx;obtain⟨k,_,rfl⟩:=oP.1 hx;obtain⟨ko,kn,ki,kk⟩:=k;exact⟨_,F.V_eq ..,rfl⟩
theorem Qo (f:F) (h:Az f=true) (ho:f.op=3∨f.op=6):∃k,f.kids=[k]:=by
 unfold Az at h;by_cases hc:(f.op≠2∧0 <f.ins.length)∨(f.op≠2∧f.op≠1∧f.n≠0)
 ·rw[if_pos hc]at h;cases h
 ·rw[if_neg hc,if_neg (by omega),if_neg (by omega),if_neg (by omega),if_pos ho]at h
  match f.kids,h with
  |[k],_=>exact⟨k,rfl⟩
theorem VO (f:F) (h:Az f=true):f.ins.length≤32:=by
 unfold Az at h;by_cases hc:(f.op≠2∧0 <f.ins.length)∨(f.op≠2∧f.op≠1∧f.n≠0)
 ·rw[if_pos hc]at h;cases h
 ·by_cases h2:f.op=2
  ·rw[if_neg hc,if_neg (by omega),if_neg (by omega),if_pos h2]at h;exact MI (of_decide_eq_true h).2.2.2
  ·omega
theorem mu {bs:List Bool} (hps:ps.length≤64) (hbs:bs.length=4096):∀f:F,f.ok→f.nodes.all Az=true→Qz ps bs f:=by
 refine F.ind λop n ins kids ih hok hfm=>?_;have hsz:=hok.2;rw[F.size_eq]at hsz;have hkl:=F.kids_len kids;have hfo:Az (.mk op n ins kids)=true:=by
  rw[F.nodes_eq]at hfm;simp only[qU,oJ]at hfm;exact hfm.1
 have hfk:∀k∈kids,k.nodes.all Az=true:=by
  intro k hk;rw[F.nodes_eq]at hfm;simp only[qU,oJ]at hfm;rw[oY]at hfm ⊢;exact λg hg=>hfm.2 g (pP.2 ⟨k,hk,hg⟩)
 have ih':∀k∈kids,Qz ps bs k:=λk hk=>ih k hk (F.ok_kid hok hk) (hfk k hk);have ok1:=hok.1 (.mk op n ins kids) (by rw[F.nodes_eq];simp);intro t ht h x hx hl;refine Ak (D4 71) rfl (oN _) hl (by simp[D.lt]) ?_;obtain⟨R,hR⟩:∃R,F.hold (CO ps.length bs) (.mk op n ins kids) t=R:=⟨_,rfl⟩;rw[hR];rw[F.hold]at hR;have q2:=(jJ t n ht).fsp;have q2b:=λh1 h2=>(jI ins ok1.2.2.1 (by have:=VO _ hfo;simp only[F.ins]at this;omega) (Fy t n).1 (Fy t n).2 h1 h2).fsp;have c155:=λk hk=>TN (.mk op n ins kids) h x hx hl k (ih' k hk) t ht;have hlow:=Po (.mk op n ins kids) t hl (Cg hx);have hvn:i64 (Fy t n).1∧i64 (Fy t n).2:=by
  unfold Fy Kq;cases hf:t.vs.find? λx=>x.a==n with
  |none=>exact⟨⟨by decide,by decide⟩,⟨by decide,by decide⟩⟩
  |some y=>
   obtain⟨cs,vs,pa⟩:=t;obtain⟨o1,o2,o3,o4,o5⟩:=ht;exact(o4 y (List.mem_of_find?_eq_some hf)).2
 replace q2b:=q2b hvn.1 hvn.2
 clear hvn;have hc4:op=4→FX 149 [.v (.list (kids.map F.V)),.func 161 [.ref (h.length+3) 0]] (h++hZ h x (.mk op n ins kids) t) [.v (.bool (!kids.all λk=>k.hold (CO ps.length bs) t))] (h++hZ h x (.mk op n ins kids) t):=by
  intro _;have hidx:IdxR Tryz.prog Ah 161 [.ref (h.length+3) 0] (kids.map F.V) (h++hZ h x (.mk op n ins kids) t) (kids.findIdx? λk=> !k.hold (CO ps.length bs) t) (h++hZ h x (.mk op n ins kids) t):=
   IdxR.map λk hk=>jG k _ (lH h x _ t) hlow _ (c155 k hk [.cells k.cells] (by intro row hrow;exact⟨k,oS.1 hrow⟩))
  have:=Uu _ 161 _ (FV.r 161 (h.length+3) 0 []) (kids.map F.V) (by simp;omega) (WR kids) hidx;rw[Fa]at this;exact this
 have hc5:op=5→FX 149 [.v (.list (kids.map F.V)),.func 155 [.ref h.length 0,.ref (h.length+2) 0]] (h++hZ h x (.mk op n ins kids) t) [.v (.bool (kids.any λk=>k.hold (CO ps.length bs) t))] (h++hZ h x (.mk op n ins kids) t):=by
  intro _;have hidx:IdxR Tryz.prog Ah 155 [.ref h.length 0,.ref (h.length+2) 0] (kids.map F.V) (h++hZ h x (.mk op n ins kids) t) (kids.findIdx? λk=>k.hold (CO ps.length bs) t) (h++hZ h x (.mk op n ins kids) t):=
   IdxR.map λk hk=>by have:=c155 k hk [] (by simp);rw[pz]at this;exact this
  have:=Uu _ 155 _ (FV.r 155 h.length 0 [.ref (h.length+2) 0]) (kids.map F.V) (by simp;omega) (WR kids) hidx;rw[Cl]at this;exact this
 obtain⟨cs,vs,pa⟩:=t;have ht':=ht;obtain⟨o1,o2,o3,o4,o5⟩:=ht';have q1:=YC (.mk op n ins kids) cs vs pa h x hx hps hbs o1;simp only[Jf,Je]at hR;simp only[Zw,Ai 71,AA 71 0,AA 71 1,AA 71 2,AQ];simp only[Th.cs,Th.ps,F.n]at hR q1;simp only[hZ,F.cells,F.op,F.n,F.ins,F.kids,F.V_eq,Th.cells,Th.cs,Th.vs,Th.ps,Th.V_eq]at*;simp[AH,AO]at*;simp only[AA 71 3];simp;by_cases b1:op=1
 ·simp[b1]at hR;simp[b1,AA 71 4];rw[b1]at q1;refine⟨_,_,q1,?_⟩;simp[AB,AW 71,hR]
 ·simp[b1]at hR;simp[b1];simp only[AA 71 5];simp;by_cases b2:op=2
  ·simp[b2]at hR;simp[b2,AA 71 6];refine⟨_,_,q2 _,?_⟩;generalize Kq (Th.mk cs vs pa) n=O at*;generalize Fy (Th.mk cs vs pa) n=N at*;simp[A0]at q2b;simp[A0,AO,AA 71 7];cases O with
   |none=>simp at hR;simp[AB,AW 71,hR]
   |some y=>
    simp at hR;simp;refine⟨_,_,q2b _,?_⟩;simp[AB,AW 71,hR]
  ·simp[b2]at hR;simp[b2];simp only[AA 71 8];simp;by_cases b3:op=3
   ·obtain⟨k,hk⟩:=Qo _ hfo (.inl b3);simp only[F.kids]at hk;subst hk;have q3:=YB cs vs pa h x hx hl op n ins k (ih' k (by simp)) o3 o5;simp[hZ,F.cells,F.op,F.n,F.ins,F.kids,Th.cells,Th.cs,Th.vs,Th.ps,AH]at q3;simp[b3,F.hold1]at hR q3;simp[b3,AA 71 9];refine⟨_,_,q3,?_⟩;simp[AB,AW 71,hR]
   ·simp[b3]at hR;simp[b3];simp only[AA 71 10];simp;by_cases b4:op=4
    ·have q4:=hc4 b4;simp[b4]at hR q4;simp[b4,AA 71 11];refine⟨_,_,q4,?_⟩;simp[AB,AW 71,hR]
    ·simp[b4]at hR;simp[b4];simp only[AA 71 12];simp;by_cases b5:op=5
     ·have q5:=hc5 b5;simp[b5]at hR q5;simp[b5,AA 71 13];refine⟨_,_,q5,?_⟩;simp[AB,AW 71,hR]
     ·simp[b5]at hR;simp[b5];simp only[AA 71 14];simp;by_cases b6:op=6
      ·obtain⟨k,hk⟩:=Qo _ hfo (.inr b6);simp only[F.kids]at hk;subst hk;have q6:=c155 k (by simp) [];obtain⟨ko,kn,ki,kk⟩:=k;simp[F.V_eq]at q6;simp[b6,F.hold1]at hR q6;simp[b6,AS,AA 71 15,F.V_eq];refine⟨_,_,q6,?_⟩;simp[AB,AW 71,hR]
      ·simp[b6]at hR;simp[b6,AD,AA 71 16,AB,AW 71,hR]
end
section
variable {s:St} {Q:AExit→St→Prop} {q:Opd}
theorem Ey {P:Program} {GL:Aa} {ps:List Nat} {asg body:AC} (n:Nat) (hn:s.h.length=n) (fid:Nat) (caps rets:List D) (h1 h':List Row) (tag:Tag)
  (hq:DS (q.ev s.e)=some (fid,caps)) (hh:s.h++[Au P GL .ready (Hn s.e) ps asg body]=h1) (hf:FSp P GL fid (.yld n::caps) h1 rets h')
  (hr:h'[n]?=some (Au P GL tag (Hn s.e) ps asg body)) (he:CK Q ⟨s.e,h'.set n .dead⟩ tag):awp P GL (.rangeF q ps asg body) Q s:=by
 subst hn;exact Ct fid caps rets h1 h' tag hq hh hf hr he
def Gn (nc:Int) (g:F):Bool:= !(decide (g.op=1)&&decide (nc≤g.n))
theorem TR {f:F} (h:BR f=0):f.nodes.all Az=true:=by
 unfold BR at h;split at h
 ·cases h
 ·split at h
  ·assumption
  ·cases h
theorem S7 (X J:List Row):Ly X.length (X++J)=X++List.replicate J.length .dead:=by
 simp[Ly]
variable {h:List Row}
theorem S2 (hl:Low h) (m:Nat):Low (h++List.replicate m .dead):=hl.apps (by
 intro row hrow;rw[List.eq_of_mem_replicate hrow];rfl)
section
variable {ps:List V} {bs:List Bool} (h:List Row) (x:Nat) (A B C:Row) (e0:CB)
def Nl (h:List Row) (x:Nat) (A B C:Row) (e0:CB) (v:Int) (t:Tag):List Row:=
 h++[.cells [.ref x 0],A,B,.cells [.v (.bool false)],.cells [.v (.int .i64 v)],C,Au Tryz.prog Ah t e0 [23] (lG 25 0) (lG 25 1000)]
theorem mP (h3:AG e0 3= .ref h.length 0) (h6:AG e0 6= .ref (h.length+3) 0) (h7:AG e0 7= .ref (h.length+4) 0) (hx:h[x]?=some (Dn ps bs)) (g:F) (J:List Row):∃J2,Nk Tryz.prog Ah (h.length+6) [.v g.V] (Nl h x A B C e0 0 .ready++J) (Gn ps.length g)
   ((if Gn ps.length g then Nl h x A B C e0 0 .ready else Nl h x A B C e0 7 (.done none))++(J++J2)):=by
 refine⟨[.cells g.cells],Cm (e0:=e0) (ps:=[23]) (asg:=(lG 25 0)) (body:=(lG 25 1000)) (by simp[Nl]) rfl ?_⟩;have q:=λZ=>ei ps bs (h++Z) x (AV Z hx);have hok:Gn ps.length g= !(decide (g.op=1)&&decide ((ps.length:Int)≤g.n)):=rfl;generalize Gn ps.length g=b at*;obtain⟨op,n,ins,kids⟩:=g;simp only[F.cells,F.op,F.n,F.ins,F.kids,F.V_eq,Nl]at*;simp only[Zw,Fh,A8 25 0,A8 25 1000,AA 25 7];simp[h3,h6,h7,AO];rw[Bf];refine Bg _ (λs hs=>⟨s,.inl rfl,hs⟩) ?_;simp only[AA 25 8];simp;by_cases b1:op=1
 ·simp[b1]at hok ⊢;by_cases b2:(ps.length:Int)≤n
  ·simp[b2]at hok;subst hok
   constructor
   ·refine⟨_,_,q _,?_⟩;simp[b2,AA 25 9,AO,AB,CJ]
   ·refine⟨_,_,q _,?_⟩;simp[b2,AA 25 9,AO,AB,CJ]
  ·simp[b2]at hok;subst hok
   constructor
   ·refine⟨_,_,q _,?_⟩;simp[b2,AD,CJ]
   ·refine⟨_,_,q _,?_⟩;simp[b2,AD,CJ]
 ·simp[b1]at hok ⊢;simp[hok,AD,CJ]
theorem nq (h3:AG e0 3= .ref h.length 0) (h6:AG e0 6= .ref (h.length+3) 0) (h7:AG e0 7= .ref (h.length+4) 0) (hx:h[x]?=some (Dn ps bs)):∀(ns:List F),
  RunY Tryz.prog Ah (h.length+6) (ns.map F.V) (Nl h x A B C e0 0 .ready) (ns.all (Gn ps.length)) (if ns.all (Gn ps.length) then Nl h x A B C e0 0 .ready else Nl h x A B C e0 7 (.done none)):=by
 intro ns;induction ns with
 |nil=>exact⟨rfl,rfl⟩
 |cons n ns ih=>
  have hy:=mP h x A B C e0 h3 h6 h7 hx n;refine⟨Gn ps.length n,_,?_,hy,?_⟩
  ·split<;>simp[Nl]
  ·cases hf:Gn ps.length n with
   |true=>
    simp only[if_true,qU,hf,pB];exact ih
   |false=>simp[hf]
end
def IL (nc:Int) (f:F) (t:Th):Int:=if BR f≠0 then BR f else if Hb t≠0 then Hb t else if f.nodes.all (Gn nc)&&t.kinds nc then 0 else 7
variable {ps:List V}
theorem gg {bs:List Bool} (hps:ps.length≤64) (hbs:bs.length=4096) (f:F) (hf:f.ok) (t:Th) (ht:t.ok) (h:List Row) (x:Nat) (hx:h[x]?=some (Dn ps bs)) (hl:Low h):
  FX 25 [.ref x 0,.v f.V,.v t.V] h [.v (.bool (decide (IL ps.length f t=0)&&f.hold (CO ps.length bs) t)),.v (.int .i64 (IL ps.length f t))] h:=by
 refine Ak (D4 25) rfl (oN _) hl (by simp[D.lt]) ?_;obtain⟨E,hE⟩:∃E,IL ps.length f t=E:=⟨_,rfl⟩;have hlow:Low (h++[.cells [.ref x 0],.cells f.cells,.cells t.cells,.cells [.v (.bool false)],.cells [.v (.int .i64 0)]]):=hl.apps (by
  intro row hrow;have:=Cg hx;simp only[oO,o7,or_false]at hrow;rcases hrow with rfl|rfl|rfl|rfl|rfl
  ·simp[Row.low,D.lts,D.lt];omega
  ·exact LI _ f
  ·exact G5 _ t
  ·simp[Row.low,D.lts,D.lt]
  ·simp[Row.low,D.lts,D.lt])
 have q1:=ZW f hf;have q2:=dN t ht;have q3:=my [BR f,Hb t] (by simp);have q4:=dM f;have q5:=λZ=>ei ps bs (h++Z) x (AV Z hx);have q6:=mw ps.length t ht;have q7:=λ(h1:BR f=0)=>mu hps hbs f hf (TR h1) t ht;rw[hE];unfold IL at hE;generalize BR f=e1 at*;generalize Hb t=e2 at*;obtain⟨B,hB⟩:∃B,f.hold (CO ps.length bs) t=B:=⟨_,rfl⟩;rw[hB]at q7 ⊢;generalize t.kinds ps.length=K at*;have hrun:=λe0 a1 a2 a3=>nq (ps:=ps) (bs:=bs) h x (.cells f.cells) (.cells t.cells) (.cells f.cells) e0 a1 a2 a3 hx f.nodes;generalize f.nodes.all (Gn ps.length)=O at*;obtain⟨op,n,ins,kids⟩:=f;obtain⟨cs,vs,pa⟩:=t;simp only[F.cells,F.op,F.n,F.ins,F.kids,F.V_eq,Th.cells,Th.cs,Th.vs,Th.ps,Th.V_eq]at*;simp[AH]at q1 q2 q3 q4;simp only[Zw,Ai 25,AA 25 0,AA 25 1,AQ];simp[AH,AD];simp only[AS,AA 25 3];simp;refine⟨_,_,⟨rfl,rfl⟩,_,q1,?_⟩;simp;refine⟨_,_,⟨rfl,rfl⟩,_,q2,?_⟩;simp;refine⟨_,_,⟨rfl,rfl⟩,_,q3,?_⟩;generalize hfi:(List.find? (λx=>x != 0) [e1,e2]).getD 0=fe;have hfe:fe=if e1≠0 then e1 else e2:=by
  subst hfi;by_cases c1:e1=0
  ·by_cases c2:e2=0
   ·simp[c1,c2]
   ·simp[c1,c2]
  ·simp[c1]
 clear hfi q3;simp[AA 25 4];by_cases b1:fe=0
 ·have c1:e1=0:=by
   by_cases c:e1=0
   ·exact c
   ·rw[if_pos c]at hfe;omega
  have c2:e2=0:=by rw[c1]at hfe;simpa[b1]using hfe.symm
  simp[c1,c2]at hE
  replace q7:=q7 c1
  simp[b1,AA 25 6];refine⟨_,_,q4 _,?_⟩;simp;have hr:=hrun (Hn [(3,.ref h.length 0),(4,.ref (h.length+1) 0),(5,.ref (h.length+2) 0),(6,.ref (h.length+3) 0),(7,.ref (h.length+4) 0),(22,.func 147 [.ref (h.length+5) 0])]) rfl rfl rfl;obtain⟨J,hp⟩:=Uv _ hf _ (h.length+5) _ _ _ hr (by simp[Nl,F.cells,F.op,F.n,F.ins,F.kids])
  replace hp:=hp.kill (h.length+7)
  have hk:=λ(v:Int) (t:Tag) A B C e0=>S7 (Nl h x A B C e0 v t) J;simp only[show ∀v t A B C e0,(Nl h x A B C e0 v t).length=h.length+7 from λv t A B C e0=>by simp[Nl]]at hk;generalize J.length=m at hk;cases O with
  |false=>
   simp only[oa,if_false,hk]at hp;refine Ey (h.length+6) (by simp) 147 [.ref (h.length+5) 0] [] _ _ (.done none) rfl ?_ hp ?_ ?_
   ·simp[Nl,AH]
   ·simp[Nl]
   ·have hE7:E=7:=by simpa using hE.symm
    simp[CK,Nl,AW 25,D.one?,D.v?,hE7]
  |true=>
   simp only[if_true,hk]at hp;refine Ey (h.length+6) (by simp) 147 [.ref (h.length+5) 0] [] _ _ .ready rfl ?_ hp ?_ ?_
   ·simp[Nl,AH]
   ·simp[Nl]
   ·simp at hE;simp[CK,Nl];have hL:Low (h++Row.cells [D.ref x 0]::Row.cells [D.v (V.int IntKind.i64 op),D.v (V.int IntKind.i64 n),D.v (V.list (List.map Ivl.V ins)),D.v (V.list (List.map F.V kids))]::
      Row.cells [D.v (AH IntKind.i64 cs),D.v (V.list (List.map Val.V vs)),D.v (V.list (List.map Th.V pa))]::Row.cells [D.v (V.bool false)]::Row.cells [D.v (V.int IntKind.i64 0)]::
      Row.cells [D.v (V.int IntKind.i64 op),D.v (V.int IntKind.i64 n),D.v (V.list (List.map Ivl.V ins)),D.v (V.list (List.map F.V kids))]::Row.dead::List.replicate m Row.dead):=by
     have h1:=hlow.app (row:=Row.cells [D.v (V.int IntKind.i64 op),D.v (V.int IntKind.i64 n),D.v (V.list (List.map Ivl.V ins)),D.v (V.list (List.map F.V kids))]) (by simp[Row.low,D.lts,D.lt]);have h2:=S2 (h1.app (row:= .dead) rfl) m;simpa using h2
    replace q7:=q7 _ x (AV _ hx) hL
    rw[Bf];refine Bg _ (λs hs=>⟨s,.inl rfl,hs⟩) ?_;simp only[AA 25 10];simp;have hfin:E=(if K then 0 else 7):=hE.symm
    constructor
    ·refine⟨_,_,q5 _,?_⟩;simp;refine⟨_,_,⟨rfl,rfl⟩,_,q6,?_⟩;cases K with
     |false=>simp at hfin;simp[AA 25 11,AO,AB,AW 25,D.one?,D.v?,hfin]
     |true=>
      simp at hfin;simp[AA 25 12];refine⟨_,_,q7,?_⟩;simp[AO,AB,AW 25,D.one?,D.v?,hfin]
    ·refine⟨_,_,q5 _,?_⟩;simp;refine⟨_,_,⟨rfl,rfl⟩,_,q6,?_⟩;cases K with
     |false=>simp at hfin;simp[AA 25 11,AO,AB,AW 25,D.one?,D.v?,hfin]
     |true=>
      simp at hfin;simp[AA 25 12];refine⟨_,_,q7,?_⟩;simp[AO,AB,AW 25,D.one?,D.v?,hfin]
 ·have hEf:E=fe:=by
   rw[hfe,←hE];by_cases c:e1=0
   ·have c2:e2≠0:=by rw[c]at hfe;simp at hfe;omega
    simp[c,c2]
   ·simp[c]
  simp[b1,AA 25 5,AO,AB,AW 25,hEf,D.one?,D.v?]
end
theorem TJ (l:List Clm):BM 5 (l.map Clm.V)=true:=by cases l<;>rfl
section
variable {k:Nat}
theorem C6 {α:Type} {l:List α} {x:α} (h:l[k]?=some x) (f:α→V):(l.map f).take (k+1)=(l.map f).take k++[f x]:=by
 rw[oW,oX,h];rfl
theorem NC {α:Type} (l:List α) (f:α→V):(l.map f).take l.length=l.map f:=o6 (by simp)
def co (a b c:Nat):List GI:=[⟨none,.box 1 (.t 0 false)⟩,
 ⟨none,.alloc 2 [.v (.int .i64 0),.v (.int .i64 0),.v (.int .i64 0),.own 130 5 [],.own a 4 [],.own 3 1 [],.own b 3 [],.own c 4 []]⟩]
def cn (a b c:Nat):List GI:=[⟨none,.p 8 (.faddr (.t 1 false) 0 1)⟩,
 ⟨none,.p 9 (.load (.t 8 false) 1 false)⟩,
 ⟨none,.p 10 (.faddr (.t 1 false) 1 1)⟩,
 ⟨none,.p 11 (.load (.t 10 false) 1 false)⟩,
 ⟨none,.p 12 (.faddr (.t 1 false) 2 1)⟩,
 ⟨none,.p 13 (.load (.t 12 false) 1 false)⟩,
 ⟨none,.p 14 (.faddr (.t 1 false) 3 1)⟩,
 ⟨none,.p 15 (.load (.t 14 false) 1 false)⟩,
 ⟨none,.p 16 (.faddr (.t 1 false) 5 1)⟩,
 ⟨none,.p 17 (.load (.t 16 false) 1 false)⟩,
 ⟨none,.p 18 (.build [.v (.int .i64 0),.v (.int .i64 0),.v (.int .i64 0),.nil 130 5,.nil a 4,.nil 3 1,.nil b 3,.nil c 4] [(0,1,(.t 9 false)),(1,1,(.t 11 false)),(2,1,(.t 13 false)),(3,1,(.t 15 false)),(5,1,(.t 17 false))])⟩,
 ⟨none,.alloc 3 [.v (.int .i64 0),.v (.int .i64 0),.v (.int .i64 0),.own 130 5 [],.own a 4 [],.own 3 1 [],.own b 3 [],.own c 4 []]⟩,
 ⟨none,.store (.t 3 false) (.t 18 false) 8⟩]
def cm:List GI:=[⟨none,.mv 4 (.c (.v (.int .i64 0)))⟩]
def cj:List GI:=[⟨none,.mv 19 (.t 4 false)⟩,
 ⟨none,.p 20 (.faddr (.t 1 false) 4 1)⟩,
 ⟨none,.p 21 (.load (.t 20 false) 1 false)⟩,
 ⟨none,.p 22 (.alen (.t 21 false))⟩,
 ⟨none,.p 23 (.bin .lss (.t 19 false) (.t 22 false))⟩]
def ce (a:Nat):List GI:=[⟨none,.p 26 (.faddr (.t 3 false) 4 1)⟩,
 ⟨none,.take 27 (.t 26 false)⟩,
 ⟨none,.p 28 (.faddr (.t 1 false) 4 1)⟩,
 ⟨none,.p 29 (.load (.t 28 false) 1 false)⟩,
 ⟨none,.mv 30 (.t 4 false)⟩,
 ⟨none,.p 31 (.iaddr (.t 29 false) (.t 30 false) 4)⟩,
 ⟨none,.p 32 (.faddr (.t 31 false) 0 2)⟩,
 ⟨none,.p 33 (.load (.t 32 false) 2 true)⟩,
 ⟨none,.p 34 (.faddr (.t 1 false) 4 1)⟩,
 ⟨none,.p 35 (.load (.t 34 false) 1 false)⟩,
 ⟨none,.mv 36 (.t 4 false)⟩,
 ⟨none,.p 37 (.iaddr (.t 35 false) (.t 36 false) 4)⟩,
 ⟨none,.p 38 (.faddr (.t 37 false) 2 1)⟩,
 ⟨none,.p 39 (.load (.t 38 false) 1 false)⟩,
 ⟨none,.p 40 (.faddr (.t 1 false) 4 1)⟩,
 ⟨none,.p 41 (.load (.t 40 false) 1 false)⟩,
 ⟨none,.mv 42 (.t 4 false)⟩,
 ⟨none,.p 43 (.iaddr (.t 41 false) (.t 42 false) 4)⟩,
 ⟨none,.p 44 (.faddr (.t 43 false) 3 1)⟩,
 ⟨none,.p 45 (.load (.t 44 false) 1 false)⟩,
 ⟨none,.p 46 (.build [.v (.int .i64 0),.v (.int .i64 0),.v (.int .i64 0),.v (.int .i64 0)] [(0,2,(.t 33 false)),(2,1,(.t 39 false)),(3,1,(.t 45 false))])⟩,
 ⟨none,.bsl 47 a 4 [(.t 46 false)]⟩,
 ⟨none,.app 48 (.t 27 true) (.t 47 false) a 4 32⟩,
 ⟨none,.p 49 (.faddr (.t 3 false) 4 1)⟩,
 ⟨none,.store (.t 49 false) (.t 48 true) 1⟩]
def cg:List GI:=[⟨none,.mv 24 (.t 4 false)⟩,
 ⟨none,.p 25 (.bin .add (.t 24 false) (.c (.v (.int .i64 1))))⟩,
 ⟨none,.mv 4 (.t 25 false)⟩]
def Ya (a:Nat):AC:=(.seq (.seq (.reg cj [1,2,3,4,23]) (.cond (.t 23 false) .skip (.exit 0))) (.seq (.block 1 (.regD (ce a) [1,2,3,4] [[],[0],[],[2],[],[2,3,4],[2,3,4,5],[2,3,4,5,6],[],[8],[],[8,9,10],[8,9,10,11],[8,9,10,11,12],[],[14],[],[14,15,16],[14,15,16,17],[14,15,16,17,18],[2,3,4,5,6,7,8,9,10,11,12,13,14,15,16,17,18,19],[2,3,4,5,6,7,8,9,10,11,12,13,14,15,16,17,18,19,20],[0,1,2,3,4,5,6,7,8,9,10,11,12,13,14,15,16,17,18,19,20,21],[0,1,2,3,4,5,6,7,8,9,10,11,12,13,14,15,16,17,18,19,20,21,22],[0,1,2,3,4,5,6,7,8,9,10,11,12,13,14,15,16,17,18,19,20,21,22,23]])) (.reg cg [1,2,3,4])))
def cd:List GI:=[⟨none,.mv 5 (.c (.v (.int .i64 0)))⟩]
def cc:List GI:=[⟨none,.mv 50 (.t 5 false)⟩,
 ⟨none,.p 51 (.faddr (.t 1 false) 6 1)⟩,
 ⟨none,.p 52 (.load (.t 51 false) 1 false)⟩,
 ⟨none,.p 53 (.alen (.t 52 false))⟩,
 ⟨none,.p 54 (.bin .lss (.t 50 false) (.t 53 false))⟩]
def ca (b:Nat):List GI:=[⟨none,.p 57 (.faddr (.t 3 false) 6 1)⟩,
 ⟨none,.take 58 (.t 57 false)⟩,
 ⟨none,.p 59 (.faddr (.t 1 false) 6 1)⟩,
 ⟨none,.p 60 (.load (.t 59 false) 1 false)⟩,
 ⟨none,.mv 61 (.t 5 false)⟩,
 ⟨none,.p 62 (.iaddr (.t 60 false) (.t 61 false) 3)⟩,
 ⟨none,.p 63 (.faddr (.t 62 false) 0 1)⟩,
 ⟨none,.p 64 (.load (.t 63 false) 1 false)⟩,
 ⟨none,.p 65 (.faddr (.t 1 false) 6 1)⟩,
 ⟨none,.p 66 (.load (.t 65 false) 1 false)⟩,
 ⟨none,.mv 67 (.t 5 false)⟩,
 ⟨none,.p 68 (.iaddr (.t 66 false) (.t 67 false) 3)⟩,
 ⟨none,.p 69 (.faddr (.t 68 false) 1 2)⟩,
 ⟨none,.p 70 (.load (.t 69 false) 2 true)⟩,
 ⟨none,.p 71 (.build [.v (.int .i64 0),.v (.int .i64 0),.v (.int .i64 0)] [(0,1,(.t 64 false)),(1,2,(.t 70 false))])⟩,
 ⟨none,.bsl 72 b 3 [(.t 71 false)]⟩,
 ⟨none,.app 73 (.t 58 true) (.t 72 false) b 3 24⟩,
 ⟨none,.p 74 (.faddr (.t 3 false) 6 1)⟩,
 ⟨none,.store (.t 74 false) (.t 73 true) 1⟩]
def cb:List GI:=[⟨none,.mv 55 (.t 5 false)⟩,
 ⟨none,.p 56 (.bin .add (.t 55 false) (.c (.v (.int .i64 1))))⟩,
 ⟨none,.mv 5 (.t 56 false)⟩]
def YZ (b:Nat):AC:=(.seq (.seq (.reg cc [1,2,3,5,54]) (.cond (.t 54 false) .skip (.exit 2))) (.seq (.block 3 (.regD (ca b) [1,2,3,5] [[],[0],[],[2],[],[2,3,4],[2,3,4,5],[2,3,4,5,6],[],[8],[],[8,9,10],[8,9,10,11],[8,9,10,11,12],[2,3,4,5,6,7,8,9,10,11,12,13],[2,3,4,5,6,7,8,9,10,11,12,13,14],[0,1,2,3,4,5,6,7,8,9,10,11,12,13,14,15],[0,1,2,3,4,5,6,7,8,9,10,11,12,13,14,15,16],[0,1,2,3,4,5,6,7,8,9,10,11,12,13,14,15,16,17]])) (.reg cb [1,2,3,5])))
def Ws:List GI:=[⟨none,.mv 6 (.c (.v (.int .i64 0)))⟩]
def Wr:List GI:=[⟨none,.mv 75 (.t 6 false)⟩,
 ⟨none,.p 76 (.faddr (.t 1 false) 7 1)⟩,
 ⟨none,.p 77 (.load (.t 76 false) 1 false)⟩,
 ⟨none,.p 78 (.alen (.t 77 false))⟩,
 ⟨none,.p 79 (.bin .lss (.t 75 false) (.t 78 false))⟩]
def Wp:List GI:=[⟨none,.p 82 (.faddr (.t 1 false) 7 1)⟩,
 ⟨none,.p 83 (.load (.t 82 false) 1 false)⟩,
 ⟨none,.mv 84 (.t 6 false)⟩,
 ⟨none,.p 85 (.iaddr (.t 83 false) (.t 84 false) 4)⟩,
 ⟨none,.p 86 (.load (.t 85 false) 4 true)⟩,
 ⟨none,.alloc 7 [.v (.int .i64 0),.v (.int .i64 0),.v (.int .i64 0),.v (.int .i64 0)]⟩,
 ⟨none,.store (.t 7 false) (.t 86 false) 4⟩]
def Wo (c:Nat):List GI:=[⟨none,.p 87 (.faddr (.t 3 false) 7 1)⟩,
 ⟨none,.take 88 (.t 87 false)⟩,
 ⟨none,.p 89 (.faddr (.t 7 false) 0 1)⟩,
 ⟨none,.p 90 (.load (.t 89 false) 1 false)⟩,
 ⟨none,.p 91 (.faddr (.t 7 false) 1 1)⟩,
 ⟨none,.p 92 (.load (.t 91 false) 1 false)⟩,
 ⟨none,.p 93 (.faddr (.t 7 false) 2 1)⟩,
 ⟨none,.p 94 (.load (.t 93 false) 1 false)⟩,
 ⟨none,.p 95 (.faddr (.t 7 false) 3 1)⟩,
 ⟨none,.p 96 (.load (.t 95 false) 1 false)⟩,
 ⟨none,.p 97 (.build [.v (.int .i64 0),.v (.int .i64 0),.v (.int .i64 0),.v (.int .i64 0)] [(0,1,(.t 90 false)),(1,1,(.t 92 false)),(2,1,(.t 94 false)),(3,1,(.t 96 false))])⟩,
 ⟨none,.bsl 98 c 4 [(.t 97 false)]⟩,
 ⟨none,.app 99 (.t 88 true) (.t 98 false) c 4 32⟩,
 ⟨none,.p 100 (.faddr (.t 3 false) 7 1)⟩,
 ⟨none,.store (.t 100 false) (.t 99 true) 1⟩]
def Wq:List GI:=[⟨none,.mv 80 (.t 6 false)⟩,
 ⟨none,.p 81 (.bin .add (.t 80 false) (.c (.v (.int .i64 1))))⟩,
 ⟨none,.mv 6 (.t 81 false)⟩]
def YY (c:Nat):AC:=(.seq (.seq (.reg Wr [1,2,3,6,79]) (.cond (.t 79 false) .skip (.exit 4))) (.seq (.block 5 (.seq (.reg Wp [1,2,3,6,7]) (.reg (Wo c) [1,2,3,6]))) (.reg Wq [1,2,3,6])))
def Wn:List GI:=[⟨none,.p 101 (.load (.t 3 false) 8 true)⟩,
 ⟨none,.store (.t 2 false) (.t 101 false) 8⟩]
def cM (a b c:Nat):AC:=(.seq (.reg (co a b c) [1,2]) (.seq (.reg (cn a b c) [1,2,3]) (.seq (.seq (.reg cm [1,2,3,4]) (.block 0 (.loop (Ya a)))) (.seq (.seq (.reg cd [1,2,3,5]) (.block 2 (.loop (YZ b)))) (.seq (.seq (.reg Ws [1,2,3,6]) (.block 4 (.loop (YY c)))) (.seq (.reg Wn [2]) .ret))))))
def dX:List AR:=[.c 2 8 true]
variable {n:Nat}
section
variable {a b c:Nat}
def RG (a b c:Nat) (r:Rgt) (ds:List Dat) (os:List Own) (ls:List Lic):Row:=
 .cells [.v (.int .i64 r.file),.v (.int .i64 r.state),.v (.int .i64 r.force),.v (.list (r.claims.map Clm.V)),.own a 4 (ds.map Dat.V),.v (AH .i64 r.bad),.own b 3 (os.map Own.V),.own c 4 (ls.map Lic.V)]
theorem au (r:Rgt) (hn:r.dates.length≤2^30) (R1:Row) (os:List Own) (ls:List Lic):
  awp Tryz.prog Ah (.loop (Ya a)) (λe s=>e= .exit 0∧AG s.e 1= .ref 0 0∧AG s.e 2= .ref 1 0∧AG s.e 3= .ref 2 0∧s.h=[r.row,R1,RG a b c r r.dates os ls])
   ⟨[(1,.ref 0 0),(2,.ref 1 0),(3,.ref 2 0),(4,.v (.int .i64 0))],[r.row,R1,RG a b c r [] os ls]⟩:=by
 refine AN r.dates.length (λk=>⟨[(1,.ref 0 0),(2,.ref 1 0),(3,.ref 2 0),(4,.v (.int .i64 k))],[r.row,R1,RG a b c r (r.dates.take k) os ls]⟩) (by simp) ?_;intro k hk;simp only[Zw,Ya,cj];simp[Rgt.row];by_cases hlt:k <r.dates.length
 ·obtain⟨x,hxk⟩:∃x,r.dates[k]?=some x:=⟨_,oI hlt⟩;have hxe:r.dates[k]=x:=(oM.1 hxk).2;have hw:=Bb k;have hroom:AU (k+1) 32=true:=by simp[AU];omega
  have ht:(r.dates.take k).length=k:=by simp;omega
  have hm:min k r.dates.length=k:=by omega
  have e:=C6 hxk Dat.V;rw[if_pos (by omega),AD];simp only[AS,ce];simp[hxk,Dat.V,RG,AO,hm,hroom];simp[cg,hw,hlt,e,Dat.V]
 ·have:k=r.dates.length:=by omega
  subst this;rw[if_neg (by omega),AJ];simp
theorem ar (r:Rgt) (hn:r.owners.length≤2^30) (R1:Row) (ds:List Dat) (ls:List Lic):
  awp Tryz.prog Ah (.loop (YZ b)) (λe s=>e= .exit 2∧AG s.e 1= .ref 0 0∧AG s.e 2= .ref 1 0∧AG s.e 3= .ref 2 0∧s.h=[r.row,R1,RG a b c r ds r.owners ls])
   ⟨[(1,.ref 0 0),(2,.ref 1 0),(3,.ref 2 0),(5,.v (.int .i64 0))],[r.row,R1,RG a b c r ds [] ls]⟩:=by
 refine AN r.owners.length (λk=>⟨[(1,.ref 0 0),(2,.ref 1 0),(3,.ref 2 0),(5,.v (.int .i64 k))],[r.row,R1,RG a b c r ds (r.owners.take k) ls]⟩) (by simp) ?_;intro k hk;simp only[Zw,YZ,cc];simp[Rgt.row];by_cases hlt:k <r.owners.length
 ·obtain⟨x,hxk⟩:∃x,r.owners[k]?=some x:=⟨_,oI hlt⟩;have hxe:r.owners[k]=x:=(oM.1 hxk).2;have hw:=Bb k;have hroom:AU (k+1) 24=true:=by simp[AU];omega
  have ht:(r.owners.take k).length=k:=by simp;omega
  have hm:min k r.owners.length=k:=by omega
  have e:=C6 hxk Own.V;rw[if_pos (by omega),AD];simp only[AS,ca];simp[hxk,Own.V,RG,AO,hm,hroom];simp[cb,hw,hlt,e,Own.V]
 ·have:k=r.owners.length:=by omega
  subst this;rw[if_neg (by omega),AJ];simp
theorem aq (r:Rgt) (hn:r.lics.length≤2^30) (R1:Row) (ds:List Dat) (os:List Own):
  awp Tryz.prog Ah (.loop (YY c)) (λe s=>e= .exit 4∧AG s.e 1= .ref 0 0∧AG s.e 2= .ref 1 0∧AG s.e 3= .ref 2 0∧∃J,s.h=r.row::R1::RG a b c r ds os r.lics::J)
   ⟨[(1,.ref 0 0),(2,.ref 1 0),(3,.ref 2 0),(6,.v (.int .i64 0))],[r.row,R1,RG a b c r ds os []]⟩:=by
 refine AY r.lics.length (λk s=>s.e=[(1,.ref 0 0),(2,.ref 1 0),(3,.ref 2 0),(6,.v (.int .i64 k))]∧∃J,s.h=r.row::R1::RG a b c r ds os (r.lics.take k)::J) ⟨by simp,[],by simp⟩ ?_;rintro k ⟨se,sh⟩ hk ⟨he,J2,hh⟩;simp only at he hh;subst he hh;simp only[Zw,YY,Wr];simp[Rgt.row];by_cases hlt:k <r.lics.length
 ·obtain⟨x,hxk⟩:∃x,r.lics[k]?=some x:=⟨_,oI hlt⟩;have hxe:r.lics[k]=x:=(oM.1 hxk).2;have hw:=Bb k;have hroom:AU (k+1) 32=true:=by simp[AU];omega
  have ht:(r.lics.take k).length=k:=by simp;omega
  have hm:min k r.lics.length=k:=by omega
  have e:=C6 hxk Lic.V;rw[if_pos (by omega),AD];simp only[Wp];simp[hxk,Lic.V,RG,AO];simp only[Wo];simp[AO,hm,hroom];simp[Wq,hw,hlt,e,Lic.V]
 ·have:k=r.lics.length:=by omega
  subst this;rw[if_neg (by omega),AJ];simp
theorem pM (hk:CL Tryz.prog Ah n 1 (cM a b c) dX=true) (r:Rgt) (hr:r.ok):PX n [r.V] [r.V]:=by
 refine F5 hk rfl ?_;simp only[cM,AE,AF,AM,co,cn,AX];simp[Rgt.V,Rgt.cs,AO,cm];have q0:=λR1=>au (a:=a) (b:=b) (c:=c) r hr.ld R1 [] [];have q1:=λR1=>ar (a:=a) (b:=b) (c:=c) r hr.lo R1 r.dates [];have q2:=λR1=>aq (a:=a) (b:=b) (c:=c) r hr.ll R1 r.dates r.owners;simp only[RG,Rgt.row,pf]at q0 q1 q2;refine Ad _ ?_ (q0 _);rintro e ⟨se,sh⟩ ⟨rfl,f1,f2,f3,hh⟩;simp only at f1 f2 f3 hh;subst hh;simp[cd,f1,f2,f3];refine Ad _ ?_ (q1 _);rintro e ⟨se,sh⟩ ⟨rfl,f1,f2,f3,hh⟩;simp only at f1 f2 f3 hh;subst hh;simp[Ws,f1,f2,f3];refine Ad _ ?_ (q2 _);rintro e ⟨se,sh⟩ ⟨rfl,f1,f2,f3,J,hh⟩;simp only at f1 f2 f3 hh;subst hh;simp[Wn,f2,f3,AB,dX,D.vs?,D.v?,AO,AH]
end
theorem n9:CL Tryz.prog Ah 53 1 (cM 88 246 247) dX=true:=by kernel_rfl
theorem nG (r:Rgt) (hr:r.ok):PX 53 [r.V] [r.V]:=pM n9 r hr
theorem mC (l:List Rgt) (hl:∀r∈l,r.ok) (hn:l.length≤2^30):PX 14 [.list (l.map Rgt.V)] [.list (l.map Rgt.V)]:=by
 refine BJ 14 ?_;simp only[Ai 14,AE,AF,AM,AA 14 0,AA 14 1,AA 14 2,AX];simp;refine AN l.length (λk=>⟨[(0,.v (.list (l.map Rgt.V))),(3,.own 74 8 ((l.take k).map Rgt.V)),(4,.v (.int .i64 k))],[]⟩) (by simp) ?_;intro k hk;simp only[Zw,A8 14 0,AA 14 3];simp;by_cases hlt:k <l.length
 ·obtain⟨x,hxk⟩:∃x,l[k]?=some x:=⟨_,oI hlt⟩;have hxe:l[k]=x:=(oM.1 hxk).2;have hw:=Bb k;have hroom:AU (k+1) 144=true:=by simp[AU];omega
  have hm:min k l.length=k:=by omega
  have e:=C6 hxk Rgt.V;have p1:=(nG x (hl x (oK hxk))).fsp;rw[if_pos (by omega),AD];simp only[AA 14 5];simp[Rgt.V,Rgt.cs]at p1;simp[hxk,Rgt.V,Rgt.cs];refine⟨_,_,p1 _,?_⟩;simp[hm,hroom,AA 14 4,hw,hlt,e,Rgt.V,Rgt.cs]
 ·have:k=l.length:=by omega
  subst this;rw[if_neg (by omega),AJ];simp[AA 14 6,AB,AW 14,NC]
end
def lk:TL:=[te 260,te 311,te 331]
theorem XA:lk.all ck=true:=by kernel_rfl
def oF (f:Nat):Option (Nat×AC×List AR):=OR lk f
theorem fP:∀a b:Int,0≤a→a <6→0≤b→b <6→PX 311 [.list (Dc.map (AH .i64)),.int .i64 a,.int .i64 b] [.bool (CO 6 (Ch 6 zb) a b)]:=by
 intro a b h1 h2 h3 h4;have ha:a=0∨a=1∨a=2∨a=3∨a=4∨a=5:=by omega
 have hb:b=0∨b=1∨b=2∨b=3∨b=4∨b=5:=by omega
 rcases ha with rfl|rfl|rfl|rfl|rfl|rfl<;>rcases hb with rfl|rfl|rfl|rfl|rfl|rfl
 all_goals exact Fm (T:=oF) (Pr:=dK) (fuel:=200) (λf n ac rs h=>OQ XA f n ac rs h) (λf args h x hx=>by cases hx) (by kernel_rfl)
end Go.Va
