/- Laws that ExtractBytes leans on, part 12. No condition of its own. -/
import Derived.Test.YtopldfpkgbkomaaGreatDoorL10
set_option linter.all false
set_option maxRecDepth 100000
set_option maxHeartbeats 4000000
noncomputable section
namespace Go.Va
open Go.Proofs
def NA (k:Int) (v:List Int):Int:=Od [112,97,105,114] [k,v.length,IntKind.i64.wrap (Pe [118,97,108,117,101] v)]
theorem mD (k:Int) (v:List Int) (hv:∀x∈v,0≤x∧x <256) (hl:v.length≤2^39):PX 136 [.agg [.int .i64 k,AH .u8 v]] [.int .u64 (NA k v)]:=by
 refine BU 136 ?_;have p1:=kW ⟨#[118,97,108,117,101]⟩ v hv (by decide) hl;have p2:=jF ⟨#[112,97,105,114]⟩ [k,v.length,IntKind.i64.wrap (Pe [118,97,108,117,101] v)] (by decide) (by simp);have e1:CS ⟨#[118,97,108,117,101]⟩=[118,97,108,117,101]:=by simp[CS]
 have e2:CS ⟨#[112,97,105,114]⟩=[112,97,105,114]:=by simp[CS]
 rw[e1]at p1;rw[e2]at p2;have e3:Od [112,97,105,114] [k,v.length,IntKind.i64.wrap (Pe [118,97,108,117,101] v)]=NA k v:=rfl;rw[e3]at p2;simp[AH]at p1 p2;simp only[At 136,AE,AG,AW,AA 136 0,AA 136 1,AV];simp[AH];refine⟨_,_,⟨rfl,rfl⟩,_,p1,?_⟩;simp;refine⟨_,_,⟨rfl,rfl⟩,_,p2,?_⟩;simp[AD,AX 136]
def Kp (p:Int×List Int):V:= .agg [.int .i64 p.1,AH .u8 p.2]
def IX (ps:List (Int×List Int)):Row:= .cells [.own 200 2 (ps.map Kp)]
def Sm (p:Int×List Int):Prop:=(∀x∈p.2,0≤x∧x <256)∧p.2.length≤2^39
def FF (ps:List (Int×List Int)) (k:Int):Option Int:=(ps.find? λp=>p.1==k).map λp=>NA p.1 p.2
theorem pK (h:List Row) (r:Nat) (ps:List (Int×List Int)) (hr:h[r]?=some (IX ps)) (hl:ps.length≤2^40) (k:Int):
  FX 55 [.ref r 0,.v (.int .i64 k)] h [.v (.int .i64 (HI (ps.findIdx? λp=>p.1==k)))] h:=by
 refine Fn 55 ?_;simp only[At 55,AE,AG,AU,AA 55 0,AA 55 1,Ab];simp;refine Ao ps.length (λi=>⟨[(0,.ref r 0),(1,.v (.int .i64 k)),(5,.v (.int .i64 i))],h⟩) (λi=>∀j <i,∀p,ps[j]?=some p→(p.1==k)=false) (by simp) (by simp) ?_;intro i hi hI;simp only[Zw,BA 55 0,AA 55 2];simp[hr,IX];by_cases hlt:i <ps.length
 ·obtain⟨p,hp⟩:∃p,ps[i]?=some p:=⟨_,qH hlt⟩;have hpe:ps[i]=p:=(qK.1 hp).2;have hw:=Bo i;rw[if_pos (by omega),AB];simp only[AA 55 4];simp[hr,IX,hp,Kp];by_cases hk:p.1=k
  ·have hf:ps.findIdx? (λp=>p.1==k)=some i:=by
    rw[List.findIdx?_eq_some_iff_getElem];refine⟨hlt,by rw[hpe];simpa using hk,λj hj=>?_⟩;have:=hI j hj ps[j] (qH (by omega));simpa using this
   simp[hk,hf,HI,AD,AA 55 5,AX 55]
  ·simp[hk,AB,AA 55 3,hw,hlt];intro j hj a b hab;rcases qi j i with h|h
   ·have:=hI j h _ hab;simpa using this
   ·have:j=i:=by omega
    subst this;rw[hp]at hab;cases hab;exact hk
 ·have:i=ps.length:=by omega
  subst this;have hf:ps.findIdx? (λp=>p.1==k)=none:=by
   rw[ti];intro p hp;obtain⟨j,hj⟩:=tJ hp;exact hI j (qK.1 hj).1 p hj
  rw[if_neg (by omega),AJ];simp[AD,AA 55 6,AX 55,hf,HI]
theorem pr (h:List Row) (r:Nat) (ps:List (Int×List Int)) (hr:h[r]?=some (IX ps)) (hl:ps.length≤2^40) (a s:Int) (ha:0≤a∧a≤4096) (hs:1 <s∧s≤4096):
  awp Tryz.prog An (.loop (lG 58 0)) (λe st=>e= .exit 0∧AF st.e 0= .ref r 0∧AF st.e 1= .v (.int .i64 a)∧AF st.e 2= .v (.int .i64 s)∧AF st.e 8= .v (.bool (ps.any λp=>decide (a≤p.1∧p.1 <a+s)))∧st.h=h)
   ⟨[(0,.ref r 0),(1,.v (.int .i64 a)),(2,.v (.int .i64 s)),(8,.v (.bool false)),(9,.v (.int .i64 0))],h⟩:=by
 refine AM ps.length (λi=>⟨[(0,.ref r 0),(1,.v (.int .i64 a)),(2,.v (.int .i64 s)),(8,.v (.bool ((ps.take i).any λp=>decide (a≤p.1∧p.1 <a+s)))),(9,.v (.int .i64 i))],h⟩) (by simp) ?_;intro i hi;have wa:IntKind.i64.wrap (a+s)=a+s:=AQ;simp only[Zw,BA 58 0,AA 58 3];simp[hr,IX];by_cases hlt:i <ps.length
 ·obtain⟨p,hp⟩:∃p,ps[i]?=some p:=⟨_,qH hlt⟩;have hpe:ps[i]=p:=(qK.1 hp).2;have hw:=Bo i;have htk:ps.take (i+1)=ps.take i++[p]:=by rw[sQ hlt,hpe]
  have hs1:¬s=1:=by omega
  rw[if_pos (by omega),AB];simp only[AA 58 5];simp[hr,IX,hp,Kp];simp only[AA 58 6];by_cases h1:a≤p.1
  ·by_cases h2:p.1 <a+s
   ·simp[h1,h2,wa,AA 58 7,hs1,AB,AA 58 9,AA 58 4,hw,hlt,htk]
   ·simp[h1,h2,wa,AB,AA 58 4,hw,hlt,htk]
  ·simp[h1,AB,AA 58 4,hw,hlt,htk]
 ·have:i=ps.length:=by omega
  subst this;rw[if_neg (by omega),AJ];simp
theorem jQ (h:List Row) (r:Nat) (ps:List (Int×List Int)) (hr:h[r]?=some (IX ps)) (hl:ps.length≤2^40) (hok:∀p∈ps,Sm p) (a:Int) (ha:0≤a∧a≤4096):
  FX 58 [.ref r 0,.v (.int .i64 a),.v (.int .i64 1)] h [.v (.int .u64 ((FF ps a).getD 0)),.v (.bool (FF ps a).isSome)] h:=by
 refine Fn 58 ?_;have wa:IntKind.i64.wrap (a+1)=a+1:=AQ;simp only[At 58,AE,AG,AU,AA 58 0,AA 58 1,AA 58 2,Ab];simp;refine Ao ps.length (λi=>⟨[(0,.ref r 0),(1,.v (.int .i64 a)),(2,.v (.int .i64 1)),(8,.v (.bool false)),(9,.v (.int .i64 i))],h⟩) (λi=>∀j <i,∀p,ps[j]?=some p→(p.1==a)=false) (by simp) (by simp) ?_;intro i hi hI;simp only[Zw,BA 58 0,AA 58 3];simp[hr,IX];by_cases hlt:i <ps.length
 ·obtain⟨p,hp⟩:∃p,ps[i]?=some p:=⟨_,qH hlt⟩;have hpe:ps[i]=p:=(qK.1 hp).2;have hw:=Bo i;rw[if_pos (by omega),AB];simp only[AA 58 5];simp[hr,IX,hp,Kp];simp only[AA 58 6];by_cases hk:p.1=a
  ·have hf:ps.find? (λp=>p.1==a)=some p:=by
    rw[List.find?_eq_some_iff_getElem];refine⟨by simpa using hk,i,hlt,hpe,λj hj=>?_⟩;have:=hI j hj ps[j] (qH (by omega));simpa using this
   have h2:a <a+1:=by omega
   obtain⟨o1,o2⟩:=hok p (qJ hp);have p1:=(mD p.1 p.2 o1 o2).fsp;rw[hk]at p1;simp[AH]at p1;simp[hk,h2,wa,AA 58 7];simp[AA 58 8,hr,IX,hp,Kp,AH,hk];refine⟨_,_,p1 _,?_⟩;simp[AD,AX 58,FF,hf,hk]
  ·have h3:¬(a≤p.1∧p.1 <a+1):=by omega
   by_cases h1:a≤p.1
   ·have h2:¬p.1 <a+1:=by omega
    simp[h1,h2,wa,AB,AA 58 4,hw,hlt];intro j hj x y hab;rcases qi j i with h|h
    ·have:=hI j h _ hab;simpa using this
    ·have:j=i:=by omega
     subst this;rw[hp]at hab;cases hab;exact hk
   ·simp[h1,AB,AA 58 4,hw,hlt];intro j hj x y hab;rcases qi j i with h|h
    ·have:=hI j h _ hab;simpa using this
    ·have:j=i:=by omega
     subst this;rw[hp]at hab;cases hab;exact hk
 ·have:i=ps.length:=by omega
  subst this;have hf:ps.find? (λp=>p.1==a)=none:=by
   rw[List.find?_eq_none];intro p hp;obtain⟨j,hj⟩:=tJ hp;have:=hI j (qK.1 hj).1 p hj;simpa using this
  rw[if_neg (by omega),AJ];simp[AD,AA 58 10,AA 58 11,AX 58,FF,hf]
def iI (l n:Int):V:= .agg [.int .i64 l,.int .i64 n]
open Go.Proofs
section
variable {row:Row} {m n:Nat}
theorem Row.low_mono (h:n≤m) (hr:Row.low n row=true):Row.low m row=true:=by
 cases row with
 |cells ds=>
  simp only[Row.low]at hr ⊢;exact JR λd hd=>by
   obtain⟨i,hi⟩:=tJ hd;exact Fd h d (Ft hr hi)
 |_=>exact hr
structure PFm (h:List Row) (q:Nat) (m:HM) (c x:Nat) (w j n:Int) (H:List Row):Prop where
 pre:H.take h.length=h.set q m.row
 hc:H[c]?=some (.cells [.v (.int .u64 w),.v (.bool true)])
 hx:H[x]?=some (.cells [.v (.int .i64 j),.v (.int .i64 n)])
 lc:h.length≤c
 lx:h.length≤x
 ne:c≠x
 low:∀row∈H.drop h.length,Row.low 0 row=true
variable {i:Nat}
section
variable {h:List Row} {q:Nat} {m:HM} {c x:Nat} {w j n:Int} {H:List Row}
theorem PFm.get (hF:PFm h q m c x w j n H) (hi:i <h.length):H[i]?=(h.set q m.row)[i]?:=by
 rw[←hF.pre,qu,if_pos hi]
end
end
structure KM where
 E:List (Int×List Int)
 st:List Nat
 ck:Nat
def nz (x:Int×List Int):V×V:=(.int .i64 x.1,AH .u8 x.2)
def KM.row (m:KM):Row:= .map (m.E.map nz) m.st m.ck
def KM.set (m:KM) (k:Int) (v:List Int):KM:=
 match m.E.findIdx? λx=>x.1==k with
 |none=>⟨m.E++[(k,v)],m.st++[m.ck],m.ck+1⟩
 |some i=>⟨m.E.set i (k,v),m.st,m.ck⟩
def I9 (k:Int) (bs:List Int):Int:=if 0≤k∧k≤4095 then (if bs.length>65536 then 4 else 0) else 5
def MV (ps:List (Int×List Int)) (k:Int):Nat:=ps.findIdx λp=> !decide (p.1 <k)
def Kv (ps:List (Int×List Int)) (k:Int) (v:List Int):List (Int×List Int):=ps.take (MV ps k)++(k,v)::ps.drop (MV ps k)
theorem pH (h:List Row) (r:Nat) (ps:List (Int×List Int)) (hr:h[r]?=some (IX ps)) (hl:ps.length≤2^30) (k:Int) (v:List Int) (hv:v.length≤2^39) (hab:∀p∈ps,p.1≠k):
  FX 56 [.ref r 0,.v (.int .i64 k),.v (AH .u8 v)] h [.v (.int .i64 (I9 k v))] (if I9 k v=0 then h.set r (IX (Kv ps k v)) else h):=by
 refine Fn 56 ?_;by_cases k0:k <0
 ·have hE:I9 k v=5:=by simp[I9];omega
  rw[hE,if_neg (by decide)];simp[At 56,AE,AG,AL,AA 56 0,AA 56 1,AA 56 2,Ab,k0,AH,AD,AX 56]
 by_cases k1:4095 <k
 ·have hE:I9 k v=5:=by simp[I9];omega
  rw[hE,if_neg (by decide)];simp[At 56,AE,AG,AL,AA 56 0,AA 56 1,AA 56 2,Ab,k0,k1,AH,AD,AX 56]
 by_cases k2:65536 <v.length
 ·have hE:I9 k v=4:=by simp[I9,k2];omega
  have k2':65536 <(v.length:Int):=by omega
  rw[hE,if_neg (by decide)];simp[At 56,AE,AG,AL,AA 56 0,AA 56 1,AA 56 3,AA 56 4,Ab,k0,k1,k2',AH,AB,AD,AX 56]
 have hE:I9 k v=0:=by simp[I9];omega
 have k2':¬65536 <(v.length:Int):=by omega
 rw[hE,if_pos rfl];have hT:MV ps k≤ps.length:=List.findIdx_le_length;have hins:Kv ps k v=ps.take (MV ps k)++(k,v)::ps.drop (MV ps k):=rfl;have room:∀(m s:Nat),m≤2^41→s≤32→AK m s=true:=by
  intro m s hm hs;have:m*s≤2^41*32:=Nat.mul_le_mul hm hs;simp[AK];omega
 have hw:∀i:Nat,i≤ps.length→IntKind.i64.wrap ((i:Int)+1)=i+1:=λi hi=>AQ;obtain⟨HH,hHH⟩:∃HH,h.set r (IX (Kv ps k v))=HH:=⟨_,rfl⟩;rw[hHH];simp only[Zw,At 56,AA 56 0,AA 56 1,AA 56 3,AA 56 5,AA 56 6,Ab];simp[k0,k1,k2',AH,AB];refine AM (MV ps k) (λi=>⟨[(0,.ref r 0),(1,.v (.int .i64 k)),(2,.v (AH .u8 v)),(7,.own 200 2 ((ps.take i).map Kp)),(8,.v (.int .i64 i))],h⟩) (by simp[AH]) ?_;intro i hi;simp only[Zw,BA 56 0,AA 56 7];simp[hr,IX];by_cases hlt:i <MV ps k
 ·have hil:i <ps.length:=by omega
  obtain⟨p,hp⟩:∃p,ps[i]?=some p:=⟨_,qH hil⟩;have hpe:ps[i]=p:=(qK.1 hp).2;have hnot:=List.not_of_lt_findIdx hlt;have hpk:p.1 <k:=by rw[←hpe];simpa using hnot
  have htk:ps.take (i+1)=ps.take i++[p]:=by rw[sQ hil,hpe]
  have hil':(i:Int) <ps.length:=by omega
  have hpk':ps[i].1 <k:=by rw[hpe];exact hpk
  simp[hil,Kp,hpk',AB,AA 56 8,hr,IX];rw[room _ _ (by simp;omega) (by omega)];simp[AA 56 9,hw i (by omega),hlt];rw[sQ (by simpa using hil)];simp[Kp]
 ·have hi2:i=MV ps k:=by omega
  have hstop:∀p,ps[i]?=some p→¬p.1 <k:=by
   intro p hp;have hil:=(qK.1 hp).1;have e:ps.findIdx (λp=> !decide (p.1 <k))=i:=hi2.symm;have:=List.findIdx_getElem (p:=λp:Int×List Int=> !decide (p.1 <k)) (xs:=ps) (w:=by rw[e];exact hil);simp only[e]at this;rw[(qK.1 hp).2]at this;simpa using this
  have hmapd:ps.map Kp=(ps.take i).map Kp++(ps.drop i).map Kp:=by rw[←qh,rJ]
  have hres:(Kv ps k v).map Kp=(ps.take i).map Kp++(V.agg [.int .i64 k,AH .u8 v]::(ps.drop i).map Kp):=by rw[hins,←hi2];simp[Kp]
  have hho:BG 2 ((ps.map Kp).drop i)=true:=by
   cases hd:(ps.map Kp).drop i with
   |nil=>rfl
   |cons x xs=>
    have:x∈ps.map Kp:=rh (by rw[hd];simp);obtain⟨p,_,rfl⟩:=qX.1 this;rfl
  have hho0:BG 2 (ps.map Kp)=true:=by cases ps<;>rfl
  have tkl:(ps.map Kp).take ps.length=ps.map Kp:=qw (by simp);have rm1:AK v.length 1=true:=by simp[AK];omega
  have rm2:AK (min i ps.length+1) 32=true:=room _ _ (by omega) (by omega);have rm3:AK (min i ps.length+1+(ps.length-i)) 32=true:=room _ _ (by omega) (by omega);have hile:i≤ps.length:=by omega
  have rm4:AK (i+1+(ps.length-i)) 32=true:=room _ _ (by omega) (by omega);have hend:h.set r (.cells [.own 200 2 ((ps.map Kp).take i++V.agg [.int .i64 k,.list (v.map (V.int .u8))]::(ps.map Kp).drop i)])=HH:=by
   rw[←hHH,IX,hres,rE,ro];rfl
  by_cases hil:i <ps.length
  ·obtain⟨p,hp⟩:∃p,ps[i]?=some p:=⟨_,qH hil⟩;have hpe:ps[i]=p:=(qK.1 hp).2;have s1:¬ps[i].1 <k:=by rw[hpe];exact hstop p hp
   have s2:¬ps[i].1=k:=by rw[hpe];exact hab p (qJ hp)
   simp[hil,Kp,s1,AJ,AA 56 10,AA 56 11,AH,rm1,AS,rm2];simp[AA 56 12,hr,IX,hil,Kp,s2];simp[AA 56 14,hr,IX,hho,hho0,hile,tkl,rm4,AA 56 15,AD,AX 56,hend]
  ·simp[hil,AJ,AA 56 10,AA 56 11,AH,rm1,AS,rm2];simp[AA 56 12,hr,IX,hil];simp[AA 56 14,hr,IX,hho,hho0,hile,tkl,rm4,AA 56 15,AD,AX 56,hend];omega
theorem PY (ps:List (Int×List Int)) (k:Int):(FF ps k).isSome=true↔∃p∈ps,p.1=k:=by
 simp only[FF,Option.isSome_map,List.find?_isSome]
 constructor
 ·rintro⟨p,h1,h2⟩;exact⟨p,h1,by simpa using h2⟩
 ·rintro⟨p,h1,h2⟩;exact⟨p,h1,by simpa using h2⟩
theorem Xt (ps:List (Int×List Int)) (a s:Int):(ps.any λp=>decide (a≤p.1∧p.1 <a+s))=true↔∃k,a≤k∧k <a+s∧(FF ps k).isSome=true:=by
 rw[sT]
 constructor
 ·rintro⟨p,h1,h2⟩;simp at h2;exact⟨p.1,h2.1,h2.2,(PY ps _).2 ⟨p,h1,rfl⟩⟩
 ·rintro⟨k,h1,h2,h3⟩;obtain⟨p,hp,rfl⟩:=(PY ps _).1 h3;exact⟨p,hp,by simpa using ⟨h1,h2⟩⟩
theorem Sy {a b:Option Int} {v:Int} (h:KY a b=some v):v=Od [98,108,111,99,107] [IntKind.i64.wrap (a.getD 0),IntKind.i64.wrap (b.getD 0)]:=by
 cases a<;>cases b<;>simp_all [KY]
theorem jR (h:List Row) (r:Nat) (ps:List (Int×List Int)) (hr:h[r]?=some (IX ps)) (hl:ps.length≤2^40) (hok:∀p∈ps,Sm p):∀(l:Nat) (n:Int),l≤12→0≤n→(n+1)*2^l≤4096→
  FX 58 [.ref r 0,.v (.int .i64 (n*2^l)),.v (.int .i64 (2^l))] h [.v (.int .u64 ((bH (FF ps) l n).getD 0)),.v (.bool (bH (FF ps) l n).isSome)] h
 |0,n,_,h0,h1=>by
  have:=jQ h r ps hr hl hok n ⟨h0,by simp at h1;omega⟩;simpa[bH]using this
 |l+1,n,hl12,h0,h1=>by
  refine Fn 58 ?_;have hp:(1:Int)≤2^l:=sF (by decide);have e0:(2:Int)^(l+1)=2*2^l:=by rw[rN,rX]
  have e1:n*2^(l+1)=2*n*2^l:=by rw[e0,←sN,rX n 2]
  have e2:(n+1)*2^(l+1)=(2*n+1+1)*2^l:=by rw[e0,←sN];congr 1;omega
  rw[e2]at h1;have e3:(2*n+1)*(2:Int)^l=2*n*2^l+2^l:=by rw[sM,tM]
  have e4:(2*n+1+1)*(2:Int)^l=2*n*2^l+2^l+2^l:=by rw[sM,e3,tM]
  have hn0:0≤2*n*(2:Int)^l:=sS (by omega) (by omega);have q1:=jR h r ps hr hl hok l (2*n) (by omega) (by omega) (by omega);have q2:=jR h r ps hr hl hok l (2*n+1) (by omega) (by omega) (by omega);have hB:=SP (FF ps) (l+1) n;have hA:=Xt ps (n*2^(l+1)) (2^(l+1));have e5:n*2^(l+1)+2^(l+1)=(n+1)*2^(l+1):=by rw[sM,tM]
  rw[e5,←hB]at hA;have hL:=pr h r ps hr hl (n*2^(l+1)) (2^(l+1)) ⟨by omega,by omega⟩ ⟨by omega,by omega⟩;have hj:bH (FF ps) (l+1) n=KY (bH (FF ps) l (2*n)) (bH (FF ps) l (2*n+1)):=rfl;have hany:(ps.any λp=>decide (n*2^(l+1)≤p.1∧p.1 <n*2^(l+1)+2^(l+1)))=(bH (FF ps) (l+1) n).isSome:=by
   rw[sL,e5];exact hA
  rw[hany]at hL;have hv:=λv=>Sy (a:=bH (FF ps) l (2*n)) (b:=bH (FF ps) l (2*n+1)) (v:=v);rw[←hj]at hv;rw[e1]at hL ⊢;rw[e3]at q2;rw[e0]at hL ⊢;generalize bH (FF ps) (l+1) n=R at*;generalize bH (FF ps) l (2*n)=A at*;generalize bH (FF ps) l (2*n+1)=B at*;generalize 2*n*(2:Int)^l=a at*;generalize (2:Int)^l=p at*;simp only[At 58,AE,AG,AU,AA 58 0,AA 58 1,AA 58 2,Ab];simp;refine AZ _ ?_ hL;rintro e ⟨se,sh⟩ ⟨rfl,f0,f1,f2,f8,rfl⟩;simp only[AL,AA 58 10];simp[f0,f1,f2,f8];cases R with
  |none=>simp[AE,AG,AD,AA 58 11,AX 58]
  |some v=>
   have w1:IntKind.i64.wrap p=p:=AQ;have w2:IntKind.i64.wrap (a+p)=a+p:=AQ;have d1:(2*p).tdiv 2=p:=by rw[ta (by omega)];omega
   have g3:=(jF ⟨#[98,108,111,99,107]⟩ [IntKind.i64.wrap (A.getD 0),IntKind.i64.wrap (B.getD 0)] (by decide) (by simp)).fsp;have eb:CS ⟨#[98,108,111,99,107]⟩=[98,108,111,99,107]:=by simp[CS]
   rw[eb,←hv v rfl]at g3;simp[AH]at g3;simp[AB,AA 58 12,d1,w1];refine⟨_,_,q1,?_⟩;simp[AA 58 13,d1,w1,w2];refine⟨_,_,q2,?_⟩;simp[AA 58 14];refine⟨_,_,g3 _,?_⟩;simp[AD,AX 58]
end Go.Va
