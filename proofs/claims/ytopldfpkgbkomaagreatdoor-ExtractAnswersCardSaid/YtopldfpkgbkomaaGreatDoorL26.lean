/- Laws that ExtractAnswers leans on, part 26. No condition of its own. -/
import Derived.Test.YtopldfpkgbkomaaGreatDoorL22
set_option linter.all false
set_option maxRecDepth 100000
set_option maxHeartbeats 4000000
noncomputable section
namespace Go.Va
open Go.Proofs
def EB (lf:Int→Option Int) (a:Int) (B:List (Nat×Int)):List Int:=B.filterMap λq=>if (q.2+1)*2^q.1≤a then bH lf q.1 q.2 else none
def D9 (lf:Int→Option Int) (a:Int) (B:List (Nat×Int)):List Int:=B.filterMap λq=>if (q.2+1)*2^q.1≤a then none else bH lf q.1 q.2
def Cn (lf:Int→Option Int) (B:List (Nat×Int)):List Int:=B.map λq=>if (bH lf q.1 q.2).isSome then 1 else 0
def Si (lf:Int→Option Int) (a b:Int):V:= .agg [AH .u64 (EB lf a (Cr a b 12 0)),AH .u64 (D9 lf a (Cr a b 12 0)),AH .u8 (Cn lf (Cr a b 12 0))]
def JX (lf:Int→Option Int) (a:Int) (B:List (Nat×Int)):Row:= .cells [.own 47 1 ((EB lf a B).map (.int .u64)),.own 47 1 ((D9 lf a B).map (.int .u64)),.own 5 1 ((Cn lf B).map (.int .u8))]
theorem E9 (a b:Int):∀(l:Nat) (n:Int),(Cr a b l n).length≤2^l
 |0,n=>by simp only[Cr];split<;>simp
 |l+1,n=>by
  have h1:=E9 a b l (2*n);have h2:=E9 a b l (2*n+1);have hp:0 <2^l:=Nat.pow_pos (by decide);simp only[Cr];split
  ·simp[Nat.pow_succ];omega
  ·split
   ·simp
   ·rw[oL,Nat.pow_succ];omega
theorem HM.lookH (m:HM) (a b:Int):(m.get (a,b)=none∧Cv true [0,0] (.agg [.int .i64 a,.int .i64 b]) (m.E.map IU)=some none)∨
  ∃i v,m.get (a,b)=some v∧Cv true [0,0] (.agg [.int .i64 a,.int .i64 b]) (m.E.map IU)=some (some i)∧(m.E.map IU)[i]?=some (.agg [.int .i64 a,.int .i64 b],.int .u64 v):=by
 have hgi:=Fo (a,b) m.E;rw[Is];cases hi:m.E.findIdx? (λx=>x.fst==(a,b))with
 |none=>
  rw[hi]at hgi;exact .inl ⟨hgi,rfl⟩
 |some i=>
  rw[hi]at hgi;obtain⟨hlt,hx,_⟩:=qu.1 hi;rw[pE,oI hlt]at hgi;refine .inr ⟨i,_,hgi,rfl,?_⟩;rw[oX,oI hlt];have:(m.E[i]).1=(a,b):=by simpa using hx
  simp[IU,this]
section
variable (h:List Row) (t:Nat) (a0 b0:Int) (R7 R3:Row) (e0:CB)
def JM (P:Row):List Row:=h++[.cells [.ref t 0],.cells [.v (.int .i64 a0)],R7,R3,P,.cells [.v (.int .i64 a0)],.cells [.v (.int .i64 b0)],Au Tryz.prog Ah .ready e0 [56] (lG 137 1) (lG 137 1001)]
theorem di (h3:AG e0 3= .ref h.length 0) (h4:AG e0 4= .ref (h.length+1) 0) (h12:AG e0 12= .ref (h.length+4) 0) {a q:Nat} {m:HM} {lf:Int→Option Int} (ht:h[t]?=some (.cells [.mref a,.mref q])) (hq:h[q]?=some m.row) (hm:HW lf m)
  (l:Nat) (n:Int) (hl:l≤12) (h0:0≤n) (h1:(n+1)*2^l≤4096) (pre:List (Nat×Int)) (hp:pre.length≤2^20) (J:List Row):
  ∃J2,Nk Tryz.prog Ah (h.length+7) [.v (Cz l n)] (JM h t a0 b0 R7 R3 e0 (JX lf a0 pre)++J) true (JM h t a0 b0 R7 R3 e0 (JX lf a0 (pre++[(l,n)]))++(J++J2)):=by
 refine⟨[.cells [.v (.int .i64 l),.v (.int .i64 n)]],Cm (e0:=e0) (ps:=[56]) (asg:=(lG 137 1)) (body:=(lG 137 1001)) (by simp[JM]) rfl ?_⟩;have q1:=Sn l n hl h0 h1;have ht':=λZ=>AV Z ht;have hq':∀Z,(h++Z)[q]?=some (.map (m.E.map IU) m.st m.ck):=λZ=>AV Z hq;have hlk:=m.lookH l n;rw[hm l hl n]at hlk;have rL:AU ((EB lf a0 pre).length+1) 8=true:=by have:=qG (λq:Nat×Int=>if (q.2+1)*2^q.1≤a0 then bH lf q.1 q.2 else none) pre;simp[AU,EB];omega
 have rR:AU ((D9 lf a0 pre).length+1) 8=true:=by have:=qG (λq:Nat×Int=>if (q.2+1)*2^q.1≤a0 then none else bH lf q.1 q.2) pre;simp[AU,D9];omega
 have rS:AU ((Cn lf pre).length+1) 1=true:=by simp[AU,Cn];omega
 have eL:EB lf a0 (pre++[(l,n)])=EB lf a0 pre++(if (n+1)*2^l≤a0 then (bH lf l n).toList else []):=by
  simp only[EB,List.filterMap_append];congr 1;by_cases hc:(n+1)*2^l≤a0<;>cases hb:bH lf l n<;>simp[hc,hb]
 have eR:D9 lf a0 (pre++[(l,n)])=D9 lf a0 pre++(if (n+1)*2^l≤a0 then [] else (bH lf l n).toList):=by
  simp only[D9,List.filterMap_append];congr 1;by_cases hc:(n+1)*2^l≤a0<;>cases hb:bH lf l n<;>simp[hc,hb]
 have eS:Cn lf (pre++[(l,n)])=Cn lf pre++[if (bH lf l n).isSome then 1 else 0]:=by simp[Cn]
 simp only[JX,eL,eR,eS];generalize EB lf a0 pre=LL at*;generalize D9 lf a0 pre=RR at*;generalize Cn lf pre=SS at*;generalize hB:bH lf l n=B at*;generalize hla:(n+1)*(2:Int)^l=la at*;generalize (l:Int)=L at*;have hc:(la-1 <a0)=(la≤a0):=propext ⟨λh=>by omega,λh=>by omega⟩;simp[Cz]at q1;simp only[Zw,JM,Cz,Fh,A8 137 1,A8 137 1001,AA 137 12];simp[AO];simp only[AS,AA 137 13];simp[h3,ht'];rcases hlk with ⟨e1,e2⟩|⟨i,v,e1,e2,e3⟩
 ·subst e1;simp[hq',Bj,V.eqL,V.eq1,e2,Du,AA 137 14,AA 137 15,h12,AO,rS,AJ,CJ]
 ·subst e1;simp[hq',Bj,V.eqL,V.eq1,e2,e3,Du,AD,AA 137 14,AA 137 16,h12,AO,rS,-List.getElem?_map];simp only[AA 137 17];simp[h4];refine⟨_,_,⟨rfl,rfl⟩,_,q1,?_⟩;by_cases hlt:la≤a0
  ·simp[hc,hlt,AA 137 18,rL,CJ]
  ·simp[hc,hlt,AA 137 19,rR,CJ]
theorem Zh (h3:AG e0 3= .ref h.length 0) (h4:AG e0 4= .ref (h.length+1) 0) (h12:AG e0 12= .ref (h.length+4) 0) {a q:Nat} {m:HM} {lf:Int→Option Int} (ht:h[t]?=some (.cells [.mref a,.mref q])) (hq:h[q]?=some m.row) (hm:HW lf m) (hab:a0≤b0):
  ∃J',FX 301 [.yld (h.length+7),.ref (h.length+5) 0,.ref (h.length+6) 0] (JM h t a0 b0 R7 R3 e0 (JX lf a0 [])) [] (JM h t a0 b0 R7 R3 e0 (JX lf a0 (Cr a0 b0 12 0))++J'):=by
 have hlen:=E9 a0 b0 12 0;obtain⟨J',hp⟩:=fW a0 b0 hab (λk=>JM h t a0 b0 R7 R3 e0 (JX lf a0 ((Cr a0 b0 12 0).take k))) (h.length+8) (h.length+5) (h.length+6) (h.length+7) (λk=>by simp[JM]) (λk=>by simp[JM]) (λk=>by simp[JM]) λk q hk J=>by
  obtain⟨g1,g2,g3,g4⟩:=Iq (Int.le_refl 0) (oK hk);have hy:=di h t a0 b0 R7 R3 e0 h3 h4 h12 ht hq hm q.1 q.2 g1 g2 (by simpa using g3) ((Cr a0 b0 12 0).take k) (by rw[ol];omega) J;rw[oW,hk];exact hy
 rw[od]at hp;exact⟨J',hp⟩
end
def UQ (a b:Int):Prop:=(0≤a∧a≤4095)∧(0≤b∧b≤4095)∧a≤b
def RP (a b k:Int):Bool:=decide (a≤k∧k≤b)
instance (a b:Int):Decidable (UQ a b):=by unfold UQ;infer_instance
theorem Z9 (a b:Int):PX 177 [.int .i64 a,.int .i64 b] [.bool (decide (UQ a b))]:=by
 refine BJ 177 ?_;have q1:=(XV a).fsp;have q2:=(XV b).fsp;have e:decide (UQ a b)=(decide (0≤a∧a≤4095)&&(decide (0≤b∧b≤4095)&&decide (a≤b))):=by
  rw[←Bool.decide_and,←Bool.decide_and];exact decide_eq_decide.2 Iff.rfl
 rw[e];generalize decide (0≤a∧a≤4095)=A at*;generalize decide (0≤b∧b≤4095)=B at*;simp only[Ai 177,AE,AF,AA 177 0,AA 177 1,AX];simp;refine⟨_,_,q1 _,?_⟩;cases A with
 |false=>simp[AB,AW 177]
 |true=>
  simp;refine⟨_,_,q2 _,?_⟩;cases B<;>simp[AB,AW 177]
theorem bd (a0 b0:Int) (H:List Row) (t a:Nat) (d2:D) (K:KM) (ht:∀Z,(H++Z)[t]?=some (.cells [.mref a,d2])) (ha:∀Z,(H++Z)[a]?=some K.row) (S:List Int) (hS:∀k∈S,k∈K.E.map (·.1)) (hn:S.length≤2^30) (hv:∀x∈K.E,x.2.length≤2^39)
  (R7:Row) (X:List Row) (Q:AExit→St→Prop)
  (hQ:Q (.exit 0) ⟨[(2,.v (.int .i64 b0)),(3,.ref H.length 0),(4,.ref (H.length+1) 0),(7,.ref (H.length+2) 0),(9,.own 193 2 ((S.filter (RP a0 b0)).map (H5 K))),(26,.own 3 1 (S.map (.int .i64))),(27,.v (.int .i64 S.length)),(28,.v (.int .i64 S.length)),(29,.v (.bool false))],H++(.cells [.ref t 0]:: .cells [.v (.int .i64 a0)]::R7::X)⟩):
  awp Tryz.prog Ah (.loop (lG 137 0)) Q ⟨[(2,.v (.int .i64 b0)),(3,.ref H.length 0),(4,.ref (H.length+1) 0),(7,.ref (H.length+2) 0),(9,.own 193 2 []),(26,.own 3 1 (S.map (.int .i64))),(27,.v (.int .i64 S.length)),(28,.v (.int .i64 (0:Nat)))],H++(.cells [.ref t 0]:: .cells [.v (.int .i64 a0)]::R7::X)⟩:=by
 refine AN S.length (λk=>⟨[(2,.v (.int .i64 b0)),(3,.ref H.length 0),(4,.ref (H.length+1) 0),(7,.ref (H.length+2) 0),(9,.own 193 2 (((S.take k).filter (RP a0 b0)).map (H5 K))),(26,.own 3 1 (S.map (.int .i64))),(27,.v (.int .i64 S.length)),(28,.v (.int .i64 k))],H++(.cells [.ref t 0]:: .cells [.v (.int .i64 a0)]::R7::X)⟩) (by simp) ?_;intro k hk;simp only[Zw,A8 137 0,AA 137 5];simp;by_cases h1:k <S.length
 ·obtain⟨s,hs⟩:∃s,S[k]?=some s:=⟨_,oI h1⟩;have hsm:=oK hs;obtain⟨i,hi1,hi2⟩:=aY K s (hS s hsm);have w1:=Bb k;have htk:(S.take (k+1)).filter (RP a0 b0)=(S.take k).filter (RP a0 b0)++(if a0≤s∧s≤b0 then [s] else []):=by
   rw[oW,hs,pw];congr 1;by_cases hc:a0≤s∧s≤b0<;>simp[RP,hc]
  have hfl:=pG (RP a0 b0) (S.take k);rw[ol]at hfl;have hvl:(Ll K s).length≤2^45:=by
   unfold Ll;cases hf:K.E.find? λx=>x.1==s with
   |none=>simp
   |some y=>
    have:=hv y (List.mem_of_find?_eq_some hf);simp;omega
  have q:=(WN (Ll K s) hvl).fsp;have ha':∀Z,(H++Z)[a]?=some (.map (K.E.map Gg) K.st K.ck):=ha;have hpv:H5 K s= .agg [.int .i64 s,AH .u8 (Ll K s)]:=rfl;rw[htk];generalize (S.take k).filter (RP a0 b0)=F at*;have hroom:AU (F.length+1) 32=true:=by simp[AU];omega
  rw[if_pos (by omega),AD];simp only[AA 137 6];simp[hs];simp only[AA 137 7];by_cases c1:a0≤s
  ·by_cases c2:s≤b0
   ·rw[if_pos ⟨c1,c2⟩];simp only[oV,pf,hpv];generalize Ll K s=bs at*;simp[AH]at q;simp only[AH]at hi2;simp[c1,c2];simp only[AA 137 8];simp[ht,ha',Bj,V.eqL,V.eq1,hi1,hi2,Du,-List.getElem?_map];refine⟨_,_,q _,?_⟩;simp[hroom,AA 137 9,w1,h1,AH,AO]
   ·simp[c1,c2,AD,AA 137 9,w1,h1]
  ·simp[c1,AD,AA 137 9,w1,h1]
 ·have hk2:k=S.length:=by omega
  subst hk2;rw[if_neg (by omega),AJ];change Q (.exit 0) _;rw[od];simpa using hQ
theorem aF (h:List Row) (hl:Low h) (t a q:Nat) (K:KM) (m:HM) (lf:Int→Option Int) (a0 b0:Int) (hab:UQ a0 b0) (ht:h[t]?=some (.cells [.mref a,.mref q])) (ha:h[a]?=some K.row) (hq:h[q]?=some m.row) (hm:HW lf m)
  (hn:K.E.length≤2^30) (hk:∀x∈K.E,(0≤x.1∧x.1≤4095)∧x.2.length≤2^39):
  FX 137 [.ref t 0,.v (.int .i64 a0),.v (.int .i64 b0)] h [.own 193 2 (((D6 (K.E.map (·.1))).filter (RP a0 b0)).map (H5 K)),.v (Si lf a0 b0),.v (.int .i64 0)] h:=by
 refine Ak (D4 137) rfl (oN _) hl (by simp[D.lt]) ?_;have hperm:(D6 (K.E.map (·.1))).Perm (K.E.map (·.1)):=rq _ _;have hlen:(D6 (K.E.map (·.1))).length=K.E.length:=by rw[hperm.length_eq,oi]
 have hSm:∀k∈D6 (K.E.map (·.1)),k∈K.E.map (·.1):=λk hk=>hperm.mem_iff.1 hk;have q1:=(Z9 a0 b0).fsp;rw[decide_eq_true hab]at q1;have q2:=λZ=>iB (h++Z) a;have ha':∀Z,(h++Z)[a]?=some (.map (K.E.map Gg) K.st K.ck):=λZ=>AV Z ha;have ht':∀Z,(h++Z)[t]?=some (.cells [.mref a,.mref q]):=λZ=>AV Z ht;have q3:=λZ (r:Nat) (hr:(h++Z)[r]?=some (.cells [.mref a]))=>iC (h:=h++Z) (m:=a) (es:=K.E.map Gg) (ks:=K.E.map (·.1)) hr (ha' Z) (by rw[qF,qF];rfl) (by rw[oi];exact hn) (by
  intro k hkk;obtain⟨x,hx,rfl⟩:=oP.1 hkk;have:=(hk x hx).1;unfold i64;omega)
 have q4:=λZ=>iA a0 b0 (h++Z);have hloop:=λR7 X Q=>bd a0 b0 h t a (.mref q) K ht' (λZ=>AV Z ha) (D6 (K.E.map (·.1))) hSm (by omega) (λx hx=>(hk x hx).2) R7 X Q;generalize D6 (K.E.map (·.1))=S at*;simp at q1;simp only[Zw,Ai 137,AA 137 0,AA 137 1,AQ];simp;refine⟨_,_,q1 _,?_⟩;simp[AD,AA 137 3,AA 137 4];simp[ht'];refine⟨_,_,(q2 _),?_⟩;simp;refine⟨_,_,(q3 _ _ ?_),?_⟩
 ·simp
 simp;simp at hloop;refine hloop _ _ _ ?_;simp[AA 137 10,AA 137 11];refine⟨_,_,(q4 _),?_⟩;simp;obtain⟨J',hy⟩:=Zh h t a0 b0 (.cells [.own 47 1 [],.own 47 1 [],.own 5 1 []]) (.cells [.mref a]) (Hn [(3,.ref h.length 0),(4,.ref (h.length+1) 0),(7,.ref (h.length+2) 0),(9,.own 193 2 ((S.filter (RP a0 b0)).map (H5 K))),(12,.ref (h.length+4) 0),(55,.func 301 [.ref (h.length+5) 0,.ref (h.length+6) 0])]) rfl rfl rfl ht hq hm hab.2.2;have e0:JX lf a0 []= .cells [.own 47 1 [],.own 47 1 [],.own 5 1 []]:=rfl;rw[e0]at hy;refine Ey (h':=JM h t a0 b0 (.cells [.own 47 1 [],.own 47 1 [],.own 5 1 []]) (.cells [.mref a]) (Hn [(3,.ref h.length 0),(4,.ref (h.length+1) 0),(7,.ref (h.length+2) 0),(9,.own 193 2 ((S.filter (RP a0 b0)).map (H5 K))),(12,.ref (h.length+4) 0),(55,.func 301 [.ref (h.length+5) 0,.ref (h.length+6) 0])]) (JX lf a0 (Cr a0 b0 12 0))++J') (h.length+7) (by simp) 301 [.ref (h.length+5) 0,.ref (h.length+5+1) 0] [] _ .ready rfl rfl ?_ ?_ ?_
 ·simpa[JM]using hy
 ·simp[JM]
 ·simp[CK,JM,JX];simp only[AS,AA 137 20];simp[AB,AW 137,D.one?,AO,Si,AH]
theorem aG (h:List Row) (hl:Low h) (t:Nat) (a0 b0:Int) (hab:¬UQ a0 b0):
  FX 137 [.ref t 0,.v (.int .i64 a0),.v (.int .i64 b0)] h [.own 193 2 [],.v (.agg [.list [],.list [],.list []]),.v (.int .i64 5)] h:=by
 refine Ak (D4 137) rfl (oN _) hl (by simp[D.lt]) ?_;have q1:=(Z9 a0 b0).fsp;rw[decide_eq_false hab]at q1;simp at q1;simp only[Zw,Ai 137,AA 137 0,AA 137 1,AQ];simp;refine⟨_,_,q1 _,?_⟩;simp[AB,AA 137 2,AW 137,D.one?,AO,D.vs?,D.v?]
def Lr (q:Nat×Int):V:= .agg [.int .i64 (q.2*2^q.1),.int .i64 (2^q.1)]
theorem cB (X:List (Nat×Int)):BM 2 (X.map Lr)=true:=by
 cases X<;>rfl
section
variable {f z a b:Int} (hf:0≤f∧f+z≤4096) (hz:1≤z) {h:List Row} (hl:Low h)
include hf hz hl
theorem aX (hc:f+z≤a∨b <f):FX 165 [.v (.agg [.int .i64 f,.int .i64 z]),.v (.int .i64 a),.v (.int .i64 b)] h [.own 281 2 [.agg [.int .i64 f,.int .i64 z]]] h:=by
 refine Ak (D4 165) rfl (oN _) hl (by simp[D.lt]) ?_;have w1:IntKind.i64.wrap (f+z)=f+z:=AL;by_cases c1:f+z≤a
 ·simp[Ai 165,awp,AA 165 0,AA 165 1,AA 165 2,AW 165,AQ,w1,c1]
 ·have c2:b <f:=by omega
  simp[Ai 165,awp,AA 165 0,AA 165 1,AA 165 2,AW 165,AQ,w1,c1,c2]
theorem b7 (h1:¬f+z≤a) (h2:¬b <f) (h3:a≤f∧f+z-1≤b):FX 165 [.v (.agg [.int .i64 f,.int .i64 z]),.v (.int .i64 a),.v (.int .i64 b)] h [.own 281 2 []] h:=by
 refine Ak (D4 165) rfl (oN _) hl (by simp[D.lt]) ?_;have w1:IntKind.i64.wrap (f+z)=f+z:=AL;have w2:IntKind.i64.wrap (f+z-1)=f+z-1:=AL;have c3:f+z-1≤b:=h3.2;simp[Ai 165,awp,AA 165 0,AA 165 1,AA 165 3,AA 165 4,AW 165,AQ,w1,w2,h1,h2,h3.1,c3]
theorem dy (h1:¬f+z≤a) (h2:¬b <f) (h3:¬(a≤f∧f+z-1≤b)) {y:Int} (hy:z=2*y) (hy1:1≤y) {L R:List V} (hL:L.length≤2^20) (hR:R.length≤2^20) (hh:BM 2 R=true)
  (g1:∀h,Low h→FX 165 [.v (.agg [.int .i64 f,.int .i64 y]),.v (.int .i64 a),.v (.int .i64 b)] h [.own 281 2 L] h)
  (g2:∀h,Low h→FX 165 [.v (.agg [.int .i64 (f+y),.int .i64 y]),.v (.int .i64 a),.v (.int .i64 b)] h [.own 281 2 R] h):
  FX 165 [.v (.agg [.int .i64 f,.int .i64 z]),.v (.int .i64 a),.v (.int .i64 b)] h [.own 281 2 (L++R)] h:=by
 refine Ak (D4 165) rfl (oN _) hl (by simp[D.lt]) ?_;have w1:IntKind.i64.wrap (f+z)=f+z:=AL;have w2:IntKind.i64.wrap (f+z-1)=f+z-1:=AL;have w3:IntKind.i64.wrap y=y:=AL;have w4:IntKind.i64.wrap (f+y)=f+y:=AL;have d1:z.tdiv 2=y:=by rw[rK (by omega)];omega
 have hroom:AU (L.length+R.length) 16=true:=by simp[AU];omega
 have hl1:Low (h++[.cells [.v (.int .i64 f),.v (.int .i64 z)]]):=hl.app rfl;have g1:=g1 _ hl1;have g2:=g2 _ hl1;have hr3:(decide (a≤f)&&decide (f+z-1≤b))=false:=by
  rw[←Bool.decide_and];exact decide_eq_false h3
 simp only[Ai 165,AE,AF,AK,AA 165 0,AA 165 1,AQ];simp[w1,h1,h2,AD,AA 165 3];by_cases c1:a≤f
 ·have c2:¬f+z-1≤b:=λh=>h3 ⟨c1,h⟩;simp[c1,w2,c2,AA 165 5,d1,w3];refine⟨_,_,g1,?_⟩;simp[AA 165 6,d1,w3,w4];refine⟨_,_,g2,?_⟩;simp[hh,hroom,AB,AW 165]
 ·have c5:f <a:=by omega
  simp[c1,c5,AA 165 5,d1,w3];refine⟨_,_,g1,?_⟩;simp[AA 165 6,d1,w3,w4];refine⟨_,_,g2,?_⟩;simp[hh,hroom,AB,AW 165]
end
theorem jF (a b:Int) (hab:a≤b):∀(l:Nat) (n:Int),l≤12→0≤n→(n+1)*2^l≤4096→∀h,Low h→
  FX 165 [.v (Lr (l,n)),.v (.int .i64 a),.v (.int .i64 b)] h [.own 281 2 ((Cr a b l n).map Lr)] h:=by
 intro l;induction l with
 |zero=>
  intro n hl h0 h1 h hh;simp at h1;simp only[Cr];split
  ·rename_i hc;simp at hc;have:=aX (f:=n) (z:=1) (a:=a) (b:=b) (by omega) (by omega) hh (by omega);simpa[Lr]using this
  ·rename_i hc;simp at hc;have:=b7 (f:=n) (z:=1) (a:=a) (b:=b) (by omega) (by omega) hh (by omega) (by omega) (by omega);simpa[Lr]using this
 |succ l ih=>
  intro n hl h0 h1 h hh;have e0:(2:Int)^(l+1)=2*2^l:=by rw[pW,ph]
  have hp:(1:Int)≤2^l:=pq (by decide);have e1:(n+1)*2^(l+1)=(2*n+1)*2^l+2^l:=by rw[e0,←qD,←Vt];congr 1;omega
  have e2:(2*n+1+1)*(2:Int)^l=(2*n+1)*2^l+2^l:=Vt _ _;have e3:(2*n+1)*(2:Int)^l=2*n*2^l+2^l:=Vt _ _;have e4:n*2^(l+1)=2*n*2^l:=by rw[e0,←qD,ph n 2]
  have hn0:0≤2*n*(2:Int)^l:=qe (by omega) (by omega);have g1:=ih (2*n) (by omega) (by omega) (by omega);have g2:=ih (2*n+1) (by omega) (by omega) (by omega);have n1:=E9 a b l (2*n);have n2:=E9 a b l (2*n+1);have hp2:2^l≤2^20:=re (by decide) (by omega);have hT:(n+1)*2^(l+1)=2*n*2^l+2*2^l:=by rw[e1,e3];omega
  simp only[Lr,Cr]at g1 g2 ⊢;rw[e3]at g2;rw[hT]at h1;rw[hT,e4];have e6:([(l+1,n)]:List (Nat×Int)).map Lr=[.agg [.int .i64 (2*n*2^l),.int .i64 (2*2^l)]]:=by
   show [V.agg [.int .i64 (n*2^(l+1)),.int .i64 (2^(l+1))]]=_;rw[e4,e0]
  rw[e0];by_cases hc:2*n*2^l+2*2^l≤a∨b <2*n*2^l
  ·rw[if_pos hc,e6];exact aX (by omega) (by omega) hh (by omega)
  ·rw[if_neg hc];by_cases hd:a≤2*n*2^l∧2*n*2^l+2*2^l-1≤b
   ·rw[if_pos hd];exact b7 (by omega) (by omega) hh (by omega) (by omega) (by omega)
   ·rw[if_neg hd,oh];exact dy (y:=2^l) (by omega) (by omega) hh (by omega) (by omega) (by omega) rfl hp (by simp;omega) (by simp;omega) (cB _) g1 g2
theorem mq (h:List Row) (hl:Low h) (r:Nat) (ps:List (Int×List Int)) (hr:h[r]?=some (G0 ps)) (hn:ps.length≤2^40) (hok:∀p∈ps,PY p) (a b:Int) (hab:a≤b):
  FX 76 [.ref r 0,.v (.int .i64 a),.v (.int .i64 b)] h [.v (Si (DV ps) a b)] h:=by
 refine Ak (D4 76) rfl (oN _) hl (by simp[D.lt]) ?_;have q1:=jF a b hab 12 0 (by omega) (by omega) (by decide) (h++[.cells [.own 47 1 [],.own 47 1 [],.own 5 1 []],.cells [.own 47 1 [],.own 47 1 [],.own 5 1 []]]) (hl.apps (by
  intro row hrow;simp only[oO,o7,or_false]at hrow;rcases hrow with rfl|rfl<;>rfl))
 have q2:=λZ=>dQ (h++Z) r ps (AV Z hr) hn hok;have hB:=λq (hq:q∈Cr a b 12 0)=>Iq (Int.le_refl 0) hq;have hlen:=E9 a b 12 0;unfold Si;generalize Cr a b 12 0=B at*;have e12:Lr (12,0)= .agg [.int .i64 0,.int .i64 4096]:=rfl;rw[e12]at q1;simp only[Ai 76,AE,AF,AM,AA 76 0,AA 76 1,AA 76 2,AA 76 3,AQ];simp;refine⟨_,_,q1,?_⟩;simp;refine AN B.length (λk=>⟨[(0,.ref r 0),(1,.v (.int .i64 a)),(6,.ref h.length 0),(7,.ref (h.length+1) 0),(8,.own 281 2 (B.map Lr)),(9,.v (.int .i64 k))],h++[.cells [.own 47 1 [],.own 47 1 [],.own 5 1 []],JX (DV ps) a (B.take k)]⟩) (by simp[JX,EB,D9,Cn]) ?_;intro k hk;simp only[Zw,A8 76 0,AA 76 4];simp;by_cases h1:k <B.length
 ·obtain⟨⟨l,n⟩,hs⟩:∃s,B[k]?=some s:=⟨_,oI h1⟩;obtain⟨b1,b2,b3,b4⟩:=hB _ (oK hs);simp only at b1 b2 b3 b4;have w1:=Bb k;have hpl:(1:Int)≤2^l:=pq (by decide);have e2:(n+1)*(2:Int)^l=n*2^l+2^l:=Vt _ _;have q3:=λZ=>q2 Z l n b1 b2 (by simpa using b3);have rk:(B.take k).length≤2^20:=by rw[ol];omega
  have rL:AU ((EB (DV ps) a (B.take k)).length+1) 8=true:=by have:=qG (λq:Nat×Int=>if (q.2+1)*2^q.1≤a then bH (DV ps) q.1 q.2 else none) (B.take k);simp[AU,EB];omega
  have rR:AU ((D9 (DV ps) a (B.take k)).length+1) 8=true:=by have:=qG (λq:Nat×Int=>if (q.2+1)*2^q.1≤a then none else bH (DV ps) q.1 q.2) (B.take k);simp[AU,D9];omega
  have rS:AU ((Cn (DV ps) (B.take k)).length+1) 1=true:=by simp[AU,Cn];omega
  have eL:EB (DV ps) a (B.take k++[(l,n)])=EB (DV ps) a (B.take k)++(if (n+1)*2^l≤a then (bH (DV ps) l n).toList else []):=by
   simp only[EB,List.filterMap_append];congr 1;by_cases hc:(n+1)*2^l≤a<;>cases hb:bH (DV ps) l n<;>simp[hc,hb]
  have eR:D9 (DV ps) a (B.take k++[(l,n)])=D9 (DV ps) a (B.take k)++(if (n+1)*2^l≤a then [] else (bH (DV ps) l n).toList):=by
   simp only[D9,List.filterMap_append];congr 1;by_cases hc:(n+1)*2^l≤a<;>cases hb:bH (DV ps) l n<;>simp[hc,hb]
  have eS:Cn (DV ps) (B.take k++[(l,n)])=Cn (DV ps) (B.take k)++[if (bH (DV ps) l n).isSome then 1 else 0]:=by simp[Cn]
  have hcl:(n*2^l <a)=((n+1)*2^l≤a):=propext ⟨λh=>by omega,λh=>by omega⟩;have hbs:(B.map Lr)[k]?=some (.agg [.int .i64 (n*2^l),.int .i64 (2^l)]):=by rw[oX,hs];rfl
  have htk:B.take (k+1)=B.take k++[(l,n)]:=by rw[oW,hs];rfl
  rw[htk];simp only[JX,eL,eR,eS];generalize EB (DV ps) a (B.take k)=LL at*;generalize D9 (DV ps) a (B.take k)=RR at*;generalize Cn (DV ps) (B.take k)=SS at*;generalize bH (DV ps) l n=H at*;generalize (n+1)*(2:Int)^l=la at*;generalize n*(2:Int)^l=f at*;generalize (2:Int)^l=z at*;simp[h1,AD];simp only[AS,AA 76 6];simp[hbs,-List.getElem?_map];refine⟨_,_,(q3 _),?_⟩;cases H with
  |none=>simp[AA 76 7,AA 76 8,AO,rS,AJ,AA 76 5,w1]
  |some v=>
   simp[AA 76 7,AA 76 9,AA 76 10,AO,rS,hbs,hcl,-List.getElem?_map];by_cases hlt:la≤a
   ·simp[hlt,AA 76 11,rL,AA 76 5,w1]
   ·simp[hlt,AA 76 12,rR,AA 76 5,w1]
 ·have hk2:k=B.length:=by omega
  subst hk2;rw[if_neg (by omega),AJ,od];simp[JX,AA 76 13,AO,AB,AW 76,AH,D.one?,D.vs?,D.v?]
end Go.Va
