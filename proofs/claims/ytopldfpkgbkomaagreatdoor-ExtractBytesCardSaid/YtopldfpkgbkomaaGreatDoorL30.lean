/- Laws that ExtractBytes leans on, part 30. No condition of its own. -/
import Derived.Test.YtopldfpkgbkomaaGreatDoorL25
set_option linter.all false
set_option maxRecDepth 100000
set_option maxHeartbeats 4000000
noncomputable section
namespace Go.Va
open Go.Proofs
def HA (lf:Int→Option Int) (a:Int) (B:List (Nat×Int)):List Int:=B.filterMap λq=>if (q.2+1)*2^q.1≤a then bH lf q.1 q.2 else none
def G7 (lf:Int→Option Int) (a:Int) (B:List (Nat×Int)):List Int:=B.filterMap λq=>if (q.2+1)*2^q.1≤a then none else bH lf q.1 q.2
def EV (lf:Int→Option Int) (B:List (Nat×Int)):List Int:=B.map λq=>if (bH lf q.1 q.2).isSome then 1 else 0
def Zb (lf:Int→Option Int) (a b:Int):V:= .agg [AH .u64 (HA lf a (FE a b 12 0)),AH .u64 (G7 lf a (FE a b 12 0)),AH .u8 (EV lf (FE a b 12 0))]
def Wi (lf:Int→Option Int) (a:Int) (B:List (Nat×Int)):Row:= .cells [.own 47 1 ((HA lf a B).map (.int .u64)),.own 47 1 ((G7 lf a B).map (.int .u64)),.own 5 1 ((EV lf B).map (.int .u8))]
theorem GN (a b:Int):∀(l:Nat) (n:Int),(FE a b l n).length≤2^l
 |0,n=>by simp only[FE];split<;>simp
 |l+1,n=>by
  have h1:=GN a b l (2*n);have h2:=GN a b l (2*n+1);have hp:0 <2^l:=Nat.pow_pos (by decide);simp only[FE];split
  ·simp[Nat.pow_succ];omega
  ·split
   ·simp
   ·rw[qG,Nat.pow_succ];omega
section
variable (h:List Row) (t:Nat) (a0 b0:Int) (R7 R3:Row) (e0:CH)
end
def og (a b:Int):Prop:=(0≤a∧a≤4095)∧(0≤b∧b≤4095)∧a≤b
instance (a b:Int):Decidable (og a b):=by unfold og;infer_instance
def MT (q:Nat×Int):V:= .agg [.int .i64 (q.2*2^q.1),.int .i64 (2^q.1)]
theorem fz (X:List (Nat×Int)):BG 2 (X.map MT)=true:=by
 cases X<;>rfl
section
variable {f z a b:Int} (hf:0≤f∧f+z≤4096) (hz:1≤z) {h:List Row} (hl:Low h)
include hf hz hl
theorem eY (hc:f+z≤a∨b <f):FX 165 [.v (.agg [.int .i64 f,.int .i64 z]),.v (.int .i64 a),.v (.int .i64 b)] h [.own 281 2 [.agg [.int .i64 f,.int .i64 z]]] h:=by
 refine CW (KN 165) rfl (qM _) hl (by simp[D.lt]) ?_;have w1:IntKind.i64.wrap (f+z)=f+z:=AQ;by_cases c1:f+z≤a
 ·simp[At 165,awp,AA 165 0,AA 165 1,AA 165 2,AX 165,Ab,w1,c1]
 ·have c2:b <f:=by omega
  simp[At 165,awp,AA 165 0,AA 165 1,AA 165 2,AX 165,Ab,w1,c1,c2]
theorem fx (h1:¬f+z≤a) (h2:¬b <f) (h3:a≤f∧f+z-1≤b):FX 165 [.v (.agg [.int .i64 f,.int .i64 z]),.v (.int .i64 a),.v (.int .i64 b)] h [.own 281 2 []] h:=by
 refine CW (KN 165) rfl (qM _) hl (by simp[D.lt]) ?_;have w1:IntKind.i64.wrap (f+z)=f+z:=AQ;have w2:IntKind.i64.wrap (f+z-1)=f+z-1:=AQ;have c3:f+z-1≤b:=h3.2;simp[At 165,awp,AA 165 0,AA 165 1,AA 165 3,AA 165 4,AX 165,Ab,w1,w2,h1,h2,h3.1,c3]
theorem iy (h1:¬f+z≤a) (h2:¬b <f) (h3:¬(a≤f∧f+z-1≤b)) {y:Int} (hy:z=2*y) (hy1:1≤y) {L R:List V} (hL:L.length≤2^20) (hR:R.length≤2^20) (hh:BG 2 R=true)
  (g1:∀h,Low h→FX 165 [.v (.agg [.int .i64 f,.int .i64 y]),.v (.int .i64 a),.v (.int .i64 b)] h [.own 281 2 L] h)
  (g2:∀h,Low h→FX 165 [.v (.agg [.int .i64 (f+y),.int .i64 y]),.v (.int .i64 a),.v (.int .i64 b)] h [.own 281 2 R] h):
  FX 165 [.v (.agg [.int .i64 f,.int .i64 z]),.v (.int .i64 a),.v (.int .i64 b)] h [.own 281 2 (L++R)] h:=by
 refine CW (KN 165) rfl (qM _) hl (by simp[D.lt]) ?_;have w1:IntKind.i64.wrap (f+z)=f+z:=AQ;have w2:IntKind.i64.wrap (f+z-1)=f+z-1:=AQ;have w3:IntKind.i64.wrap y=y:=AQ;have w4:IntKind.i64.wrap (f+y)=f+y:=AQ;have d1:z.tdiv 2=y:=by rw[ta (by omega)];omega
 have hroom:AK (L.length+R.length) 16=true:=by simp[AK];omega
 have hl1:Low (h++[.cells [.v (.int .i64 f),.v (.int .i64 z)]]):=hl.app rfl;have g1:=g1 _ hl1;have g2:=g2 _ hl1;have hr3:(decide (a≤f)&&decide (f+z-1≤b))=false:=by
  rw[←Bool.decide_and];exact decide_eq_false h3
 simp only[At 165,AE,AG,AL,AA 165 0,AA 165 1,Ab];simp[w1,h1,h2,AB,AA 165 3];by_cases c1:a≤f
 ·have c2:¬f+z-1≤b:=λh=>h3 ⟨c1,h⟩;simp[c1,w2,c2,AA 165 5,d1,w3];refine⟨_,_,g1,?_⟩;simp[AA 165 6,d1,w3,w4];refine⟨_,_,g2,?_⟩;simp[hh,hroom,AD,AX 165]
 ·have c5:f <a:=by omega
  simp[c1,c5,AA 165 5,d1,w3];refine⟨_,_,g1,?_⟩;simp[AA 165 6,d1,w3,w4];refine⟨_,_,g2,?_⟩;simp[hh,hroom,AD,AX 165]
end
theorem lg (a b:Int) (hab:a≤b):∀(l:Nat) (n:Int),l≤12→0≤n→(n+1)*2^l≤4096→∀h,Low h→
  FX 165 [.v (MT (l,n)),.v (.int .i64 a),.v (.int .i64 b)] h [.own 281 2 ((FE a b l n).map MT)] h:=by
 intro l;induction l with
 |zero=>
  intro n hl h0 h1 h hh;simp at h1;simp only[FE];split
  ·rename_i hc;simp at hc;have:=eY (f:=n) (z:=1) (a:=a) (b:=b) (by omega) (by omega) hh (by omega);simpa[MT]using this
  ·rename_i hc;simp at hc;have:=fx (f:=n) (z:=1) (a:=a) (b:=b) (by omega) (by omega) hh (by omega) (by omega) (by omega);simpa[MT]using this
 |succ l ih=>
  intro n hl h0 h1 h hh;have e0:(2:Int)^(l+1)=2*2^l:=by rw[rN,rX]
  have hp:(1:Int)≤2^l:=sF (by decide);have e1:(n+1)*2^(l+1)=(2*n+1)*2^l+2^l:=by rw[e0,←sN,←ce];congr 1;omega
  have e2:(2*n+1+1)*(2:Int)^l=(2*n+1)*2^l+2^l:=ce _ _;have e3:(2*n+1)*(2:Int)^l=2*n*2^l+2^l:=ce _ _;have e4:n*2^(l+1)=2*n*2^l:=by rw[e0,←sN,rX n 2]
  have hn0:0≤2*n*(2:Int)^l:=sS (by omega) (by omega);have g1:=ih (2*n) (by omega) (by omega) (by omega);have g2:=ih (2*n+1) (by omega) (by omega) (by omega);have n1:=GN a b l (2*n);have n2:=GN a b l (2*n+1);have hp2:2^l≤2^20:=so (by decide) (by omega);have hT:(n+1)*2^(l+1)=2*n*2^l+2*2^l:=by rw[e1,e3];omega
  simp only[MT,FE]at g1 g2 ⊢;rw[e3]at g2;rw[hT]at h1;rw[hT,e4];have e6:([(l+1,n)]:List (Nat×Int)).map MT=[.agg [.int .i64 (2*n*2^l),.int .i64 (2*2^l)]]:=by
   show [V.agg [.int .i64 (n*2^(l+1)),.int .i64 (2^(l+1))]]=_;rw[e4,e0]
  rw[e0];by_cases hc:2*n*2^l+2*2^l≤a∨b <2*n*2^l
  ·rw[if_pos hc,e6];exact eY (by omega) (by omega) hh (by omega)
  ·rw[if_neg hc];by_cases hd:a≤2*n*2^l∧2*n*2^l+2*2^l-1≤b
   ·rw[if_pos hd];exact fx (by omega) (by omega) hh (by omega) (by omega) (by omega)
   ·rw[if_neg hd,qh];exact iy (y:=2^l) (by omega) (by omega) hh (by omega) (by omega) (by omega) rfl hp (by simp;omega) (by simp;omega) (fz _) g1 g2
theorem pE (h:List Row) (hl:Low h) (r:Nat) (ps:List (Int×List Int)) (hr:h[r]?=some (IX ps)) (hn:ps.length≤2^40) (hok:∀p∈ps,Sm p) (a b:Int) (hab:a≤b):
  FX 76 [.ref r 0,.v (.int .i64 a),.v (.int .i64 b)] h [.v (Zb (FF ps) a b)] h:=by
 refine CW (KN 76) rfl (qM _) hl (by simp[D.lt]) ?_;have q1:=lg a b hab 12 0 (by omega) (by omega) (by decide) (h++[.cells [.own 47 1 [],.own 47 1 [],.own 5 1 []],.cells [.own 47 1 [],.own 47 1 [],.own 5 1 []]]) (hl.apps (by
  intro row hrow;simp only[qL,qn,or_false]at hrow;rcases hrow with rfl|rfl<;>rfl))
 have q2:=λZ=>jR (h++Z) r ps (Az Z hr) hn hok;have hB:=λq (hq:q∈FE a b 12 0)=>Ld (Int.le_refl 0) hq;have hlen:=GN a b 12 0;unfold Zb;generalize FE a b 12 0=B at*;have e12:MT (12,0)= .agg [.int .i64 0,.int .i64 4096]:=rfl;rw[e12]at q1;simp only[At 76,AE,AG,AU,AA 76 0,AA 76 1,AA 76 2,AA 76 3,Ab];simp;refine⟨_,_,q1,?_⟩;simp;refine AM B.length (λk=>⟨[(0,.ref r 0),(1,.v (.int .i64 a)),(6,.ref h.length 0),(7,.ref (h.length+1) 0),(8,.own 281 2 (B.map MT)),(9,.v (.int .i64 k))],h++[.cells [.own 47 1 [],.own 47 1 [],.own 5 1 []],Wi (FF ps) a (B.take k)]⟩) (by simp[Wi,HA,G7,EV]) ?_;intro k hk;simp only[Zw,BA 76 0,AA 76 4];simp;by_cases h1:k <B.length
 ·obtain⟨⟨l,n⟩,hs⟩:∃s,B[k]?=some s:=⟨_,qH h1⟩;obtain⟨b1,b2,b3,b4⟩:=hB _ (qJ hs);simp only at b1 b2 b3 b4;have w1:=Bo k;have hpl:(1:Int)≤2^l:=sF (by decide);have e2:(n+1)*(2:Int)^l=n*2^l+2^l:=ce _ _;have q3:=λZ=>q2 Z l n b1 b2 (by simpa using b3);have rk:(B.take k).length≤2^20:=by rw[qv];omega
  have rL:AK ((HA (FF ps) a (B.take k)).length+1) 8=true:=by have:=sR (λq:Nat×Int=>if (q.2+1)*2^q.1≤a then bH (FF ps) q.1 q.2 else none) (B.take k);simp[AK,HA];omega
  have rR:AK ((G7 (FF ps) a (B.take k)).length+1) 8=true:=by have:=sR (λq:Nat×Int=>if (q.2+1)*2^q.1≤a then none else bH (FF ps) q.1 q.2) (B.take k);simp[AK,G7];omega
  have rS:AK ((EV (FF ps) (B.take k)).length+1) 1=true:=by simp[AK,EV];omega
  have eL:HA (FF ps) a (B.take k++[(l,n)])=HA (FF ps) a (B.take k)++(if (n+1)*2^l≤a then (bH (FF ps) l n).toList else []):=by
   simp only[HA,List.filterMap_append];congr 1;by_cases hc:(n+1)*2^l≤a<;>cases hb:bH (FF ps) l n<;>simp[hc,hb]
  have eR:G7 (FF ps) a (B.take k++[(l,n)])=G7 (FF ps) a (B.take k)++(if (n+1)*2^l≤a then [] else (bH (FF ps) l n).toList):=by
   simp only[G7,List.filterMap_append];congr 1;by_cases hc:(n+1)*2^l≤a<;>cases hb:bH (FF ps) l n<;>simp[hc,hb]
  have eS:EV (FF ps) (B.take k++[(l,n)])=EV (FF ps) (B.take k)++[if (bH (FF ps) l n).isSome then 1 else 0]:=by simp[EV]
  have hcl:(n*2^l <a)=((n+1)*2^l≤a):=propext ⟨λh=>by omega,λh=>by omega⟩;have hbs:(B.map MT)[k]?=some (.agg [.int .i64 (n*2^l),.int .i64 (2^l)]):=by rw[qZ,hs];rfl
  have htk:B.take (k+1)=B.take k++[(l,n)]:=by rw[qc,hs];rfl
  rw[htk];simp only[Wi,eL,eR,eS];generalize HA (FF ps) a (B.take k)=LL at*;generalize G7 (FF ps) a (B.take k)=RR at*;generalize EV (FF ps) (B.take k)=SS at*;generalize bH (FF ps) l n=H at*;generalize (n+1)*(2:Int)^l=la at*;generalize n*(2:Int)^l=f at*;generalize (2:Int)^l=z at*;simp[h1,AB];simp only[AW,AA 76 6];simp[hbs,-List.getElem?_map];refine⟨_,_,(q3 _),?_⟩;cases H with
  |none=>simp[AA 76 7,AA 76 8,AS,rS,AJ,AA 76 5,w1]
  |some v=>
   simp[AA 76 7,AA 76 9,AA 76 10,AS,rS,hbs,hcl,-List.getElem?_map];by_cases hlt:la≤a
   ·simp[hlt,AA 76 11,rL,AA 76 5,w1]
   ·simp[hlt,AA 76 12,rR,AA 76 5,w1]
 ·have hk2:k=B.length:=by omega
  subst hk2;rw[if_neg (by omega),AJ,qm];simp[Wi,AA 76 13,AS,AD,AX 76,AH,D.one?,D.vs?,D.v?]
end Go.Va
