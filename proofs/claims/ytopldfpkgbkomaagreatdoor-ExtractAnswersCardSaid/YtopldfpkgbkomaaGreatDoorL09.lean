/- Laws that ExtractAnswers leans on, part 9. No condition of its own. -/
import Derived.Test.YtopldfpkgbkomaaGreatDoorL08
set_option linter.all false
set_option maxRecDepth 100000
set_option maxHeartbeats 4000000
noncomputable section
namespace Go.Va
structure Dat where
 cl:Int
 ix:Int
 day:Int
 file:Int
structure Own where
 party:Int
 num:Int
 den:Int
structure Lic where
 fr:Int
 to:Int
 fst:Int
 lst:Int
structure Rgt where
 file:Int
 state:Int
 force:Int
 claims:List Clm
 dates:List Dat
 bad:List Int
 owners:List Own
 lics:List Lic
def Dat.V (d:Dat):V:= .agg [.int .i64 d.cl,.int .i64 d.ix,.int .i64 d.day,.int .i64 d.file]
def Own.V (o:Own):V:= .agg [.int .i64 o.party,.int .i64 o.num,.int .i64 o.den]
def Lic.V (h:Lic):V:= .agg [.int .i64 h.fr,.int .i64 h.to,.int .i64 h.fst,.int .i64 h.lst]
def Rgt.cs (r:Rgt):List V:=[.int .i64 r.file,.int .i64 r.state,.int .i64 r.force,.list (r.claims.map Clm.V),.list (r.dates.map Dat.V),AH .i64 r.bad,.list (r.owners.map Own.V),.list (r.lics.map Lic.V)]
def Rgt.V (r:Rgt):V:= .agg r.cs
def Dat.ok (d:Dat):Prop:=i64 d.cl∧i64 d.ix∧i64 d.day∧i64 d.file
def Own.ok (o:Own):Prop:=i64 o.party∧i64 o.num∧i64 o.den
def Lic.ok (h:Lic):Prop:=i64 h.fr∧i64 h.to∧i64 h.fst∧i64 h.lst
structure Rgt.ok (r:Rgt):Prop where
 file:i64 r.file
 state:i64 r.state
 force:i64 r.force
 claims:∀c∈r.claims,c.ok
 dates:∀d∈r.dates,d.ok
 bad:∀n∈r.bad,i64 n
 owners:∀o∈r.owners,o.ok
 lics:∀h∈r.lics,h.ok
 lc:r.claims.length≤2^30
 ld:r.dates.length≤2^30
 lb:r.bad.length≤2^30
 lo:r.owners.length≤2^30
 ll:r.lics.length≤2^30
 enc:(BB r.claims).length≤2^39
def Dl (n lo hi:Int):Bool:=decide (lo≤n∧n≤hi)
def CU {α:Type} (f:α→α→Bool):List α→Bool
 |x::y::l=>f x y&&CU f (y::l)
 |_=>true
def Ga (n:Nat) (d:Dat):Bool:=Dl d.cl 0 (n-1)&&Dl d.ix 0 63&&Dl d.day 0 131072&&Dl d.file 0 4095
def Gb (a b:Dat):Bool:=decide (a.cl <b.cl∨a.cl=b.cl∧a.ix <b.ix)
def E8 (o:Own):Bool:=Dl o.party 1 4095&&EA o.num o.den&&decide (0 <o.num∧o.num≤o.den)
def GY (h:Lic):Bool:=Dl h.fr 1 4095&&Dl h.to 1 4095&&Dl h.fst 0 h.lst&&decide (h.lst≤131072)
def Aw (r:Rgt):Bool:=
 Dl r.file 0 4095&&Dl r.state 0 4&&Dl r.force 0 4&&CD r.claims==0&&decide (r.dates.length≤4096)&&decide (r.lics.length≤4096)&&
 (r.dates.all (Ga r.claims.length)&&CU Gb r.dates)&&(r.bad.all (λi=>Dl i 0 (r.claims.length-1))&&CU (λa b=>decide (a <b)) r.bad)&&
 (r.owners.all E8&&CU (λa b=>decide (a.party <b.party)) r.owners)&&r.lics.all GY
def BW (d:Dat):List Int:=AZ d.cl++AZ d.ix++AZ d.day++AZ d.file
def BU (o:Own):List Int:=AZ o.party++AZ o.num++AZ o.den
def BV (h:Lic):List Int:=AZ h.fr++AZ h.to++AZ h.fst++AZ h.lst
def Be (r:Rgt):List Int:=
 AZ r.file++AZ r.state++AZ r.force++BE (BB r.claims)++AZ r.dates.length++r.dates.flatMap BW++A6 r.bad++
 AZ r.owners.length++r.owners.flatMap BU++AZ r.lics.length++r.lics.flatMap BV
open Go.Proofs
def Cq (k:Int):F:= .mk 1 ((IntKind.i64.wrap (k.tdiv 8)).tmod 6) [] []
def DH (k:Int):F:= .mk 2 ((IntKind.i64.wrap (k.tdiv 8)).tmod 2) [⟨(IntKind.i64.wrap (k.tdiv 48)).tmod 4,1,
 IntKind.i64.wrap (IntKind.i64.wrap ((IntKind.i64.wrap (k.tdiv 48)).tmod 4+1)+(IntKind.i64.wrap (k.tdiv 192)).tmod 2),1,(IntKind.i64.wrap (k.tdiv 384)).tmod 2==1,false,false,false⟩] []
def DR (n:Int):F:=
 let k:=An n 1048576
 if k.tmod 8=0∨k.tmod 8=1∨k.tmod 8=2 then Cq k
 else if k.tmod 8=3∨k.tmod 8=4 then DH k
 else if k.tmod 8=5 then .mk 4 0 [] [DH k,Cq k]
 else if k.tmod 8=6 then .mk 3 0 [] [Cq k]
 else .mk 6 0 [] [Cq k]
theorem Z0 (n:Int):PX 212 [.int .i64 n] [(DR n).V]:=by
 refine BJ 212 ?_;have p1:=(Pb n 1048576 (by decide)).fsp;unfold DR Cq DH;generalize An n 1048576=k at*;simp at p1;simp only[Zw,Ai 212,AA 212 0,AA 212 1,AX];simp;refine⟨_,_,p1 _,?_⟩;simp[AA 212 2,AO];simp[AA 212 3,AO];simp[AA 212 4,AO];simp[AA 212 5,AO];by_cases h0:k.tmod 8=0
 ·simp[AA 212 6,AA 212 7,h0,AD,AA 212 10,AO,AB,AW 212,F.V_eq]
 by_cases h1:k.tmod 8=1
 ·simp[AA 212 6,AA 212 7,AA 212 8,h1,AD,AA 212 10,AO,AB,AW 212,F.V_eq]
 by_cases h2:k.tmod 8=2
 ·simp[AA 212 6,AA 212 7,AA 212 8,AA 212 9,h2,AD,AA 212 10,AO,AB,AW 212,F.V_eq]
 by_cases h3:k.tmod 8=3
 ·simp[AA 212 6,AA 212 7,AA 212 8,AA 212 9,AA 212 11,h3,AD,AA 212 13,AO,AB,AW 212,F.V_eq,Ivl.V]
 by_cases h4:k.tmod 8=4
 ·simp[AA 212 6,AA 212 7,AA 212 8,AA 212 9,AA 212 11,AA 212 12,h4,AD,AA 212 13,AO,AB,AW 212,F.V_eq,Ivl.V]
 by_cases h5:k.tmod 8=5
 ·simp[AA 212 6,AA 212 7,AA 212 8,AA 212 9,AA 212 11,AA 212 12,AA 212 14,h5,AD,AA 212 15,AO,AB,AW 212,F.V_eq,Ivl.V]
 by_cases h6:k.tmod 8=6
 ·simp[AA 212 6,AA 212 7,AA 212 8,AA 212 9,AA 212 11,AA 212 12,AA 212 14,AA 212 16,h6,AD,AA 212 17,AO,AB,AW 212,F.V_eq]
 simp[AA 212 6,AA 212 7,AA 212 8,AA 212 9,AA 212 11,AA 212 12,AA 212 14,AA 212 16,h0,h1,h2,h3,h4,h5,h6,AD,AA 212 18,AO,AB,AW 212,F.V_eq]
theorem EQ (a n:Int) (hn:0 <n): -n <An a n∧An a n <n:=by
 have key:∀b:Int,-n <b.tmod n∧b.tmod n <n:=λb=>by
  have h1:=rM b hn;have h2:=rM (-b) hn;rw[Int.neg_tmod]at h2;omega
 unfold An;split<;>exact key _
theorem EU (l:List Int) (i n:Int) (hn:0 <n): -n <Ae l i n∧Ae l i n <n:=by
 unfold Ae;split
 ·omega
 ·split
  ·exact EQ _ _ hn
  ·omega
def GO (l:List Int) (i:Nat):Clm:=
 let k:=Ae l (2*i+1) 1000
 let m:=Ae l (2*i+2) 1048576
 ⟨if i=2∧(IntKind.i64.wrap (k.tdiv 16)).tmod 4=0 then [0,1] else if 0 <i∧(IntKind.i64.wrap (k.tdiv 4)).tmod 2=0 then [(IntKind.i64.wrap (k.tdiv 8)).tmod i] else [],
  if k.tmod 4=0 then .mk 5 0 [] [DR m,DR (IntKind.i64.wrap (k.tdiv 4))] else DR m⟩
def H9 (l:List Int):Nat:=(1+Ae l 0 3).toNat
def B9 (l:List Int):List Clm:=(List.range (H9 l)).map (GO l)
theorem Iu (l:List Int):H9 l≤3:=by have:=EU l 0 3 (by decide);unfold H9;omega
def Ty:AC:=(.seq (.seq (.reg (oG 124 10) [0,3,4,5,6,7,46]) (.cond (.t 46 false) (.reg (oG 124 11) [0,3,4,5,6,7]) .skip)) (.seq (.seq (.reg (oG 124 12) [0,3,4,5,7,60]) (.cond (.t 60 false) (.reg (oG 124 13) [0,3,4,5,7]) .skip)) (.reg (oG 124 14) [0,3,4,5])))
def Tz:AC:=(.seq (.reg (oG 124 8) [0,3,4,5,6,7,30]) (.cond (.t 30 false) (.regD (oG 124 9) [0,3,4,5,6,7] [[],[0],[],[2],[2,3],[0,1,2,3,4],[0,1,2,3,4,5],[0,1,2,3,4,5,6],[0,1,2,3,4,5,6,7]]) .skip))
theorem Rl:(lG 124 0)=(.seq (.seq (.reg (oG 124 4) [0,3,4,5,13]) (.cond (.t 13 false) .skip (.exit 0))) (.seq (.block 1 (.seq (.reg (oG 124 6) [0,3,4,5,6]) (.seq (.reg (oG 124 7) [0,3,4,5,6,7]) (.seq Tz Ty)))) (.reg (oG 124 5) [0,3,4,5]))):=(A8 124 0 :)
def QP (i:Nat) (k:Int):List Int:=if i=2∧(IntKind.i64.wrap (k.tdiv 16)).tmod 4=0 then [0,1] else if 0 <i∧(IntKind.i64.wrap (k.tdiv 4)).tmod 2=0 then [(IntKind.i64.wrap (k.tdiv 8)).tmod i] else []
theorem bh (i:Nat) (k:Int) (b:F) (d0 d4 dI:D) (hdI:dI.copy= .v (.list (b.ins.map Ivl.V))) (xs:List V) (J:List Row) (hi:i≤3) (hxs:xs.length≤3) (hh:BM 5 xs=true) (Q:AExit→St→Prop)
  (hQ:∀J',Q .normal ⟨[(0,d0),(3,.own 130 5 (xs++[Clm.V ⟨QP i k,b⟩])),(4,d4),(5,.v (.int .i64 i))],J'⟩):
  ∀e,AG e 0=d0→AG e 3= .own 130 5 xs→AG e 4=d4→AG e 5= .v (.int .i64 i)→AG e 6= .v (.int .i64 k)→AG e 7= .ref J.length 0→awp Tryz.prog Ah Ty Q ⟨e,
   J++[.cells [.own 3 1 [],.v (.int .i64 b.op),.v (.int .i64 b.n),dI,.v (.list (b.kids.map F.V))]]⟩:=by
 simp only[D.copy]at hdI;intro e f0 f3 f4 f5 f6 f7;have hroom:AU (xs.length+1) 88=true:=by simp[AU];omega
 have hq:∀(refs:List Int) J',refs=QP i k→Q .normal ⟨[(0,d0),(3,.own 130 5 (xs++[V.agg [.list (refs.map (.int .i64)),.int .i64 b.op,.int .i64 b.n,.list (b.ins.map Ivl.V),.list (b.kids.map F.V)]])),(4,d4),(5,.v (.int .i64 i))],J'⟩:=by
  rintro refs J' rfl;exact hQ J'
 clear hQ;unfold QP at hq;unfold Ty;simp only[AE,AF,AK,AA 124 10];simp[f0,f3,f4,f5,f6,f7];by_cases hi0:i=0
 ·subst hi0;simp[AD,AA 124 12,AA 124 14,hroom,hdI];exact hq [] _ (by simp)
 have hi1:0 <i:=by omega
 have hi1':(i:Int)≠0:=by omega
 by_cases h2:(IntKind.i64.wrap (k.tdiv 4)).tmod 2=0
 ·simp[hi1,h2,AA 124 11,hi0];by_cases h3:i=2
  ·subst h3;by_cases h4:(IntKind.i64.wrap (k.tdiv 16)).tmod 4=0
   ·simp[AA 124 12,h4,AA 124 13,AA 124 14,hroom,hdI];exact hq [0,1] _ (by simp[h4])
   ·simp[AA 124 12,h4,AD,AA 124 14,hroom,hdI];exact hq [(IntKind.i64.wrap (k.tdiv 8)).tmod 2] _ (by simp[h4,h2])
  ·have h3':¬(i:Int)=2:=by omega
   simp[AA 124 12,h3',AD,AA 124 14,hroom,hdI];exact hq [(IntKind.i64.wrap (k.tdiv 8)).tmod i] _ (by simp[h3,h2,hi1])
 ·simp[hi1,h2,AD];by_cases h3:i=2
  ·subst h3;by_cases h4:(IntKind.i64.wrap (k.tdiv 16)).tmod 4=0
   ·simp[AA 124 12,h4,AA 124 13,AA 124 14,hroom,hdI];exact hq [0,1] _ (by simp[h4])
   ·simp[AA 124 12,h4,AA 124 14,hroom,hdI];exact hq [] _ (by simp[h4,h2])
  ·have h3':¬(i:Int)=2:=by omega
   simp[AA 124 12,h3',AA 124 14,hroom,hdI];exact hq [] _ (by simp[h3,h2])
theorem bj (k:Int) (f g:F) (hg:PX 212 [.int .i64 (IntKind.i64.wrap (k.tdiv 4))] [g.V]) (d0 d4 d5:D) (xs:List V) (J:List Row) (Q:AExit→St→Prop)
  (hQ:∀(b:F) e (dI:D),dI.copy= .v (.list (b.ins.map Ivl.V))→b=(if k.tmod 4=0 then .mk 5 0 [] [f,g] else f)→AG e 0=d0→AG e 3= .own 130 5 xs→AG e 4=d4→AG e 5=d5→AG e 6= .v (.int .i64 k)→AG e 7= .ref J.length 0→Q .normal ⟨e,
   J++[.cells [.own 3 1 [],.v (.int .i64 b.op),.v (.int .i64 b.n),dI,.v (.list (b.kids.map F.V))]]⟩):
  awp Tryz.prog Ah Tz Q ⟨[(0,d0),(3,.own 130 5 xs),(4,d4),(5,d5),(6,.v (.int .i64 k)),(7,.ref J.length 0)],
   J++[.cells [.own 3 1 [],.v (.int .i64 f.op),.v (.int .i64 f.n),.v (.list (f.ins.map Ivl.V)),.v (.list (f.kids.map F.V))]]⟩:=by
 unfold Tz;simp only[AE,AF,AK,AA 124 8];simp;by_cases h4:k.tmod 4=0
 ·rw[if_pos h4]at hQ ⊢;have hQ:=hQ _ [(0,d0),(3,.own 130 5 xs),(4,d4),(5,d5),(6,.v (.int .i64 k)),(7,.ref J.length 0)] (.own 368 8 []) rfl rfl rfl rfl rfl rfl rfl rfl;simp only[F.op,F.n,F.kids,oV,pf]at hQ;rw[F.V_flds]at hg;rw[F.V_flds f,F.V_flds g]at hQ;simp only[AS,AA 124 9];simp;refine⟨_,_,⟨rfl,rfl⟩,_,hg,?_⟩;simp[AO];exact hQ
 ·rw[if_neg h4]at hQ ⊢;rw[AD];exact hQ f _ _ rfl rfl rfl rfl rfl rfl rfl rfl
theorem jd (l:List Int):PX 124 [AH .i64 l] [.list ((B9 l).map Clm.V)]:=by
 refine BJ 124 ?_;have p1:=(QT l 0 3 (by decide)).fsp;have hb:=EU l 0 3 (by decide);have hm:H9 l=(1+Ae l 0 3).toNat:=rfl;have hm3:=Iu l;have w1:IntKind.i64.wrap (1+Ae l 0 3)=1+Ae l 0 3:=AL;simp[AH]at p1;simp only[Ai 124,AE,AF,AM,AA 124 0,AA 124 1,AA 124 2,AA 124 3,AX];simp[AH];refine⟨_,_,p1 _,?_⟩;simp[w1];generalize 1+Ae l 0 3=M at*;refine AY (H9 l) (λi s=>s.e=[(0,.v (AH .i64 l)),(3,.own 130 5 ((List.range i).map λj=>(GO l j).V)),(4,.v (.int .i64 M)),(5,.v (.int .i64 i))]) (by simp[AH]) ?_;rintro i ⟨se,J⟩ hi he;simp only at he;subst he;rw[Rl];simp only[Zw,AA 124 4];simp[AH];by_cases hlt:i <H9 l
 ·have hlt':(i:Int) <M:=by omega
  have v1:IntKind.i64.wrap (2*(i:Int))=2*i:=AL;have v2:IntKind.i64.wrap (2*(i:Int)+1)=2*i+1:=AL;have v3:IntKind.i64.wrap (2*(i:Int)+2)=2*i+2:=AL;have hw:=Bb i;have p2:=(QT l (2*i+1) 1000 (by decide)).fsp;have p3:=(QT l (2*i+2) 1048576 (by decide)).fsp;have hcl:∀b,b=(if (Ae l (2*i+1) 1000).tmod 4=0 then F.mk 5 0 [] [DR (Ae l (2*i+2) 1048576),DR (IntKind.i64.wrap ((Ae l (2*i+1) 1000).tdiv 4))] else DR (Ae l (2*i+2) 1048576))→(⟨QP i (Ae l (2*i+1) 1000),b⟩:Clm)=GO l i:=by
   rintro b rfl;rfl
  have p4:=(Z0 (Ae l (2*i+2) 1048576)).fsp;have p5:=Z0 (IntKind.i64.wrap ((Ae l (2*i+1) 1000).tdiv 4));generalize Ae l (2*i+1) 1000=k at*;generalize Ae l (2*i+2) 1048576=m at*;generalize DR m=f at*;generalize DR (IntKind.i64.wrap (k.tdiv 4))=g at*;rw[F.V_flds]at p4;simp[AH]at p2 p3 p4;rw[if_pos hlt',AD];simp only[AA 124 6];simp[v1,v2];refine⟨_,_,p2 _,?_⟩;simp[AA 124 7,v1,v3];refine⟨_,_,p3 _,?_⟩;simp;refine⟨_,_,p4 _,?_⟩;simp[AO];refine bj k f g p5 _ _ _ _ J _ ?_;intro b e dI hdI hbb f0 f3 f4 f5 f6 f7;simp only[];refine bh i k b _ _ dI hdI _ J (by omega) (by simp;omega) ?_ _ ?_ e f0 f3 f4 f5 f6 f7
  ·cases i with
   |zero=>rfl
   |succ i=>simp[r9,Clm.V]
  ·intro J';rw[hcl b hbb];simp[AA 124 5,hw,hlt,po]
 ·have:i=H9 l:=by omega
  subst this;have hlt':¬((H9 l:Nat):Int) <M:=by omega
  rw[if_neg hlt',AJ];simp[AB,AA 124 15,AW 124,B9,rj]
def Re (l:List Int) (i:Nat):Dat:=⟨i,(Ae l (4+i) 1000).tmod 3,IntKind.i64.wrap (36000+(Ae l (4+i) 1000).tmod 50),(Ae l (4+i) 1000).tmod 20⟩
def L7 (l:List Int) (i:Nat):Option Int:=if (Ae l (4+i) 1000).tmod 5=0 then some i else none
def Sq (l:List Int) (i:Nat):Own:=⟨IntKind.i64.wrap (1+2*i+(Ae l (9+i) 1000).tmod 2),1,Ae l 8 3⟩
def NH (l:List Int) (i:Nat):Option Lic:=
 let k:=Ae l (9+i) 1000
 if k.tmod 3=0 then some ⟨IntKind.i64.wrap (1+k.tmod 5),IntKind.i64.wrap (2+k.tmod 7),k,IntKind.i64.wrap (k+IntKind.i64.wrap (k.tdiv 7))⟩ else none
def D7 (l:List Int):Rgt:=
 ⟨Ae l 0 40,Ae l 1 5,if Ae l 2 3=0 then Ae l 3 5 else 0,B9 l,(List.range (B9 l).length).map (Re l),(List.range (B9 l).length).filterMap (L7 l),
  (List.range (Ae l 8 3).toNat).map (Sq l),(List.range (Ae l 8 3).toNat).filterMap (NH l)⟩
theorem KF (l:List Int):(B9 l).length≤3:=by have:=Iu l;simpa[B9]using this
def mkR (a b c:Int) (cl:List Clm) (ds:List Dat) (bad:List Int) (os:List Own) (ls:List Lic):Row:=
 .cells [.v (.int .i64 a),.v (.int .i64 b),.v (.int .i64 c),.v (.list (cl.map Clm.V)),.own 131 4 (ds.map Dat.V),.own 3 1 (bad.map (.int .i64)),.own 135 3 (os.map Own.V),.own 137 4 (ls.map Lic.V)]
theorem bD (l:List Int) (a b c:Int) (cl:List Clm) (hcl:cl.length≤3) (R0:Row):
  awp Tryz.prog Ah (.loop (lG 48 0)) (λe s=>e= .exit 0∧AG s.e 0= .v (AH .i64 l)∧AG s.e 2= .ref 0 0∧AG s.e 3= .ref 1 0∧s.h=[R0,mkR a b c cl ((List.range cl.length).map (Re l)) ((List.range cl.length).filterMap (L7 l)) [] []])
   ⟨[(0,.v (AH .i64 l)),(2,.ref 0 0),(3,.ref 1 0),(4,.v (.int .i64 0))],[R0,mkR a b c cl [] [] [] []]⟩:=by
 refine AN cl.length (λi=>⟨[(0,.v (AH .i64 l)),(2,.ref 0 0),(3,.ref 1 0),(4,.v (.int .i64 i))],[R0,mkR a b c cl ((List.range i).map (Re l)) ((List.range i).filterMap (L7 l)) [] []]⟩) (by simp) ?_;intro i hi;simp only[Zw,A8 48 0,AA 48 5];simp[mkR];by_cases hlt:i <cl.length
 ·have v1:IntKind.i64.wrap (4+(i:Int))=4+i:=AL;have hw:=Bb i;have p1:=(QT l (4+i) 1000 (by decide)).fsp;have hlb:((List.range i).filterMap (L7 l)).length≤i:=by have:=qG (L7 l) (List.range i);simpa using this
  have r1:AU (i+1) 32=true:=by simp[AU];omega
  have r2:AU (((List.range i).filterMap (L7 l)).length+1) 8=true:=by simp[AU];omega
  simp[AH]at p1;have hd:Re l i=⟨i,(Ae l (4+i) 1000).tmod 3,IntKind.i64.wrap (36000+(Ae l (4+i) 1000).tmod 50),(Ae l (4+i) 1000).tmod 20⟩:=rfl;have hb:L7 l i=if (Ae l (4+i) 1000).tmod 5=0 then some (i:Int) else none:=rfl;generalize Ae l (4+i) 1000=k at*;rw[if_pos (by omega),AD];simp only[AA 48 7];simp[v1,AH];refine⟨_,_,p1 _,?_⟩;simp[AA 48 8,AO,r1];by_cases h5:k.tmod 5=0
  ·simp[AA 48 9,h5,AA 48 10,r2,AA 48 6,hw,hlt,po,hd,hb,Dat.V]
  ·simp[AA 48 9,h5,AD,AA 48 6,hw,hlt,po,hd,hb,Dat.V]
 ·have:i=cl.length:=by omega
  subst this;rw[if_neg (by omega),AJ];simp
theorem bC (l:List Int) (a b c:Int) (cl:List Clm) (ds:List Dat) (bad:List Int) (R0:Row):
  awp Tryz.prog Ah (.loop (lG 48 1)) (λe s=>e= .exit 2∧AG s.e 2= .ref 0 0∧AG s.e 3= .ref 1 0∧s.h=[R0,mkR a b c cl ds bad ((List.range (Ae l 8 3).toNat).map (Sq l)) ((List.range (Ae l 8 3).toNat).filterMap (NH l))])
   ⟨[(0,.v (AH .i64 l)),(2,.ref 0 0),(3,.ref 1 0),(6,.v (.int .i64 (Ae l 8 3))),(7,.v (.int .i64 0))],[R0,mkR a b c cl ds bad [] []]⟩:=by
 have hN:=EU l 8 3 (by decide);have hO:∀i,Sq l i=⟨IntKind.i64.wrap (1+2*i+(Ae l (9+i) 1000).tmod 2),1,Ae l 8 3⟩:=λ_=>rfl;generalize Ae l 8 3=N at*;refine AN N.toNat (λi=>⟨[(0,.v (AH .i64 l)),(2,.ref 0 0),(3,.ref 1 0),(6,.v (.int .i64 N)),(7,.v (.int .i64 i))],[R0,mkR a b c cl ds bad ((List.range i).map (Sq l)) ((List.range i).filterMap (NH l))]⟩) (by simp) ?_;intro i hi;simp only[Zw,A8 48 1,AA 48 13];simp[mkR];by_cases hlt:i <N.toNat
 ·have hlt':(i:Int) <N:=by omega
  have v1:IntKind.i64.wrap (9+(i:Int))=9+i:=AL;have v2:IntKind.i64.wrap (2*(i:Int))=2*i:=AL;have v3:IntKind.i64.wrap (1+2*(i:Int))=1+2*i:=AL;have hw:=Bb i;have p1:=(QT l (9+i) 1000 (by decide)).fsp;have hlb:((List.range i).filterMap (NH l)).length≤i:=by have:=qG (NH l) (List.range i);simpa using this
  have r1:AU (i+1) 24=true:=by simp[AU];omega
  have r2:AU (((List.range i).filterMap (NH l)).length+1) 32=true:=by simp[AU];omega
  simp[AH]at p1;have hd:=hO i;have hb:NH l i=if (Ae l (9+i) 1000).tmod 3=0 then some ⟨IntKind.i64.wrap (1+(Ae l (9+i) 1000).tmod 5),IntKind.i64.wrap (2+(Ae l (9+i) 1000).tmod 7),(Ae l (9+i) 1000),IntKind.i64.wrap ((Ae l (9+i) 1000)+IntKind.i64.wrap ((Ae l (9+i) 1000).tdiv 7))⟩ else none:=rfl;generalize Ae l (9+i) 1000=k at*;rw[if_pos (by omega),AD];simp only[AA 48 15];simp[v1,AH];refine⟨_,_,p1 _,?_⟩;simp[AA 48 16,AO,r1,v2,v3];by_cases h5:k.tmod 3=0
  ·simp[AA 48 17,h5,AA 48 18,AO,r2,AA 48 14,hw,hlt',po,hd,hb,Own.V,Lic.V]
  ·simp[AA 48 17,h5,AD,AA 48 14,hw,hlt',po,hd,hb,Own.V]
 ·have:i=N.toNat:=by omega
  subst this;rw[if_neg (by omega),AJ];simp
def Yi:AC:=(.seq (.seq (.reg (oG 48 4) [0,2,3,4]) (.block 0 (.loop (lG 48 0)))) (.seq (.reg (oG 48 11) [0,2,3,6]) (.seq (.seq (.reg (oG 48 12) [0,2,3,6,7]) (.block 2 (.loop (lG 48 1)))) (.seq (.reg (oG 48 19) [2]) .ret))))
theorem Yj:(gA 48)=(.seq (.reg (oG 48 0) [0,2]) (.seq (.reg (oG 48 1) [0,2,3]) (.seq (.seq (.reg (oG 48 2) [0,2,3,18]) (.cond (.t 18 false) (.reg (oG 48 3) [0,2,3]) .skip)) Yi))):=(Ai 48 :)
theorem nJ (l:List Int):PX 48 [AH .i64 l] [(D7 l).V]:=by
 refine BJ 48 ?_;have p1:=(QT l 0 40 (by decide)).fsp;have p2:=(QT l 1 5 (by decide)).fsp;have p3:=(jd l).fsp;have p4:=(QT l 2 3 (by decide)).fsp;have p5:=(QT l 3 5 (by decide)).fsp;have p6:=(QT l 8 3 (by decide)).fsp;have hl0:=λc R0=>bD l (Ae l 0 40) (Ae l 1 5) c (B9 l) (KF l) R0;have hl1:=λc ds bad R0=>bC l (Ae l 0 40) (Ae l 1 5) c (B9 l) ds bad R0;simp[AH,mkR]at p1 p2 p3 p4 p5 p6 hl0 hl1;rw[Yj];simp only[AE,AF,AK,AA 48 0,AA 48 1,AX];simp[AH];refine⟨_,_,p1 _,?_⟩;simp;refine⟨_,_,p2 _,?_⟩;simp;refine⟨_,_,p3 _,?_⟩;simp[AO,AA 48 2];refine⟨_,_,p4 _,?_⟩;simp;have fin:∀(c:Int) (e:CB),AG e 0= .v (AH .i64 l)→AG e 2= .ref 0 0→AG e 3= .ref 1 0→c=(if Ae l 2 3=0 then Ae l 3 5 else 0)→
   awp Tryz.prog Ah Yi (λe s=>(match e with| .exit _=>False|_=>True)∧CR s (gR 48)=some [(D7 l).V])
    ⟨e,[.cells [.v (.int .i64 0),.v (.int .i64 0),.v (.int .i64 0),.own 130 5 [],.own 131 4 [],.own 3 1 [],.own 135 3 [],.own 137 4 []],
     .cells [.v (.int .i64 (Ae l 0 40)),.v (.int .i64 (Ae l 1 5)),.v (.int .i64 c),.v (.list ((B9 l).map Clm.V)),.own 131 4 [],.own 3 1 [],.own 135 3 [],.own 137 4 []]]⟩:=by
  intro c e f0 f2 f3 hc;unfold Yi;simp only[AE,AF,AM,AA 48 4];simp[f0,f2,f3,AH];refine Ad _ ?_ (hl0 c _);rintro e ⟨se,sh⟩ ⟨rfl,g0,g2,g3,hh⟩;simp only at g0 g2 g3 hh;subst hh;simp[AA 48 11,g0,g2,g3];refine⟨_,_,p6 _,?_⟩;simp[AA 48 12];have q:=hl1 c ((List.range (B9 l).length).map (Re l)) ((List.range (B9 l).length).filterMap (L7 l)) (.cells [.v (.int .i64 0),.v (.int .i64 0),.v (.int .i64 0),.own 130 5 [],.own 131 4 [],.own 3 1 [],.own 135 3 [],.own 137 4 []]);simp at q;refine Ad _ ?_ q;rintro e ⟨se,sh⟩ ⟨rfl,g2,g3,hh⟩;simp only at g2 g3 hh;subst hh;simp[AA 48 19,g2,g3,AB,AW 48,AO,D7,Rgt.V,Rgt.cs,AH,hc]
 by_cases h0:Ae l 2 3=0
 ·simp[h0,AA 48 3];refine⟨_,_,p5 _,?_⟩;simp[AO];exact fin _ _ rfl rfl rfl (by simp[h0])
 ·simp[h0,AD];exact fin _ _ rfl rfl rfl (by simp[h0])
theorem KR (n lo hi:Int):PX 125 [.int .i64 n,.int .i64 lo,.int .i64 hi] [.bool (Dl n lo hi)]:=by
 refine BJ 125 ?_;by_cases h1:lo≤n<;>by_cases h2:n≤hi<;>simp[Ai 125,awp,AA 125 0,AA 125 1,AW 125,AX,h1,h2,Dl]
theorem KQ (n lo hi:Int):PX 216 [.int .i64 n,.int .i64 lo,.int .i64 hi] [.bool (Dl n lo hi)]:=by
 refine BJ 216 ?_;by_cases h1:lo≤n<;>by_cases h2:n≤hi<;>simp[Ai 216,awp,AA 216 0,AA 216 1,AW 216,AX,h1,h2,Dl]
theorem iS (a b:Dat):PX 220 [a.V,b.V] [.bool (Gb a b)]:=by
 refine BJ 220 ?_;unfold Gb;by_cases h1:a.cl <b.cl
 ·simp[Ai 220,awp,AA 220 0,AA 220 1,AW 220,AX,Dat.V,h1]
 ·by_cases h2:a.cl=b.cl
  ·simp[Ai 220,awp,AA 220 0,AA 220 1,AW 220,AX,Dat.V,h2]
  ·simp[Ai 220,awp,AA 220 0,AA 220 1,AW 220,AX,Dat.V,h1,h2]
theorem iM (a b:Int):PX 224 [.int .i64 a,.int .i64 b] [.bool (decide (a <b))]:=by
 refine BJ 224 ?_;simp[Ai 224,awp,AA 224 0,AA 224 1,AW 224,AX]
theorem iI (a b:Own):PX 229 [a.V,b.V] [.bool (decide (a.party <b.party))]:=by
 refine BJ 229 ?_;simp[Ai 229,awp,AA 229 0,AA 229 1,AW 229,AX,Own.V]
theorem iG (x:Lic):PX 231 [x.V] [.bool (GY x)]:=by
 refine BJ 231 ?_;have p1:=(KQ x.fr 1 4095).fsp;have p2:=(KQ x.to 1 4095).fsp;have p3:=(KQ x.fst 0 x.lst).fsp;unfold GY;generalize Dl x.fr 1 4095=A at*;generalize Dl x.to 1 4095=B at*;generalize Dl x.fst 0 x.lst=C at*;simp at p1 p2 p3;simp only[Ai 231,AE,AF,AA 231 0,AA 231 1,AX];simp[Lic.V];refine⟨_,_,p1 _,?_⟩;cases A with
 |false=>simp[AB,AW 231]
 |true=>
  simp;refine⟨_,_,p2 _,?_⟩;cases B with
  |false=>simp[AB,AW 231]
  |true=>
   simp;refine⟨_,_,p3 _,?_⟩;cases C with
   |false=>simp[AB,AW 231]
   |true=>simp[AB,AW 231]
theorem aV:EA 1 1=true:=by decide
theorem iK (x:Own) (hx:x.ok):PX 226 [x.V] [.bool (E8 x)]:=by
 refine BJ 226 ?_;have p1:=(KQ x.party 1 4095).fsp;have p2:=(Zz x.num x.den 1 1 hx.2.1 hx.2.2 (by unfold i64;omega) (by unfold i64;omega)).fsp;rw[aV,rP]at p2;unfold E8;generalize Dl x.party 1 4095=A at*;simp only[Ai 226,AE,AF,AA 226 0,AA 226 1,AX];simp[Own.V];cases hR:EA x.num x.den with
 |false=>
  rw[hR]at p2;simp[A0]at p1 p2;refine⟨_,_,p2 _,?_⟩;simp[AA 226 2];refine⟨_,_,p1 _,?_⟩;cases A<;>simp[AB,AW 226]
 |true=>
  rw[hR]at p2;simp[A0]at p1 p2;refine⟨_,_,p2 _,?_⟩;simp[AA 226 2];refine⟨_,_,p1 _,?_⟩;have hc:(Ot x.num x.den 1 1≤0)↔x.num≤x.den:=by unfold Ot;simp;split<;>(try split)<;>omega
  cases A with
  |false=>simp[AB,AW 226]
  |true=>
   by_cases h1:x.num≤x.den
   ·have h2:=hc.2 h1;simp[h2,h1,AB,AW 226]
   ·have h2:¬Ot x.num x.den 1 1≤0:=λh=>h1 (hc.1 h);simp[h2,h1,AB,AW 226]
def Low (h:List Row):Prop:=∀row∈h,Row.low h.length row=true
theorem iU (x:Dat) (n:Int) (h:List Row) (r:Nat) (hr:h[r]?=some (.cells [.v (.int .i64 n)])) (hn:0≤n∧n≤2^40) (hl:Low h):
  FX 218 [.v x.V,.ref r 0] h [.v (.bool (Dl x.cl 0 (n-1)&&Dl x.ix 0 63&&Dl x.day 0 131072&&Dl x.file 0 4095))] h:=by
 refine Ak (D4 218) rfl (oN _) hl (by simp[D.lt]) ?_;have w1:IntKind.i64.wrap (n-1)=n-1:=AL;have p1:=(KQ x.cl 0 (n-1)).fsp;have p2:=(KQ x.ix 0 63).fsp;have p3:=(KQ x.day 0 131072).fsp;have p4:=(KQ x.file 0 4095).fsp;have hr':=AV [.cells [.v (.int .i64 x.cl),.v (.int .i64 x.ix),.v (.int .i64 x.day),.v (.int .i64 x.file)]] hr;generalize Dl x.cl 0 (n-1)=A at*;generalize Dl x.ix 0 63=B at*;generalize Dl x.day 0 131072=C at*;generalize Dl x.file 0 4095=E at*;simp at p1 p2 p3 p4;simp only[Ai 218,AE,AF,AA 218 0,AA 218 1,AQ];simp[Dat.V,hr',w1];refine⟨_,_,p1 _,?_⟩;cases A with
 |false=>simp[AB,AW 218]
 |true=>
  simp;refine⟨_,_,p2 _,?_⟩;cases B with
  |false=>simp[AB,AW 218]
  |true=>
   simp;refine⟨_,_,p3 _,?_⟩;cases C with
   |false=>simp[AB,AW 218]
   |true=>
    simp;refine⟨_,_,p4 _,?_⟩;cases E<;>simp[AB,AW 218]
theorem iQ (x n:Int) (h:List Row) (r:Nat) (hr:h[r]?=some (.cells [.v (.int .i64 n)])) (hn:0≤n∧n≤2^40):
  FX 222 [.v (.int .i64 x),.ref r 0] h [.v (.bool (Dl x 0 (n-1)))] h:=by
 refine Dh 222 ?_;have w1:IntKind.i64.wrap (n-1)=n-1:=AL;have p1:=(KQ x 0 (n-1)).fsp;simp at p1;simp only[Ai 222,AE,AF,AA 222 0,AA 222 1,AQ];simp[hr,w1];refine⟨_,_,p1 _,?_⟩;simp[AB,AW 222]
section
variable {row:Row} {h:List Row}
theorem Low.app (hl:Low h) (hr:Row.low (h.length+1) row=true):Low (h++[row]):=by
 intro x hx;rw[oL];rcases oc.1 hx with hx|hx
 ·have h1:=hl _ hx;cases x with
  |cells ds=>
   refine Et λd hd=>?_;obtain⟨i,hi⟩:=rQ hd;exact Eb (by simp) d (FT h1 hi)
  |_=>exact h1
 ·simp at hx;subst hx;exact hr
theorem IdxR.map {P:Program} {GL:Aa} {fid:Nat} {caps:List D} {α:Type} {f:α→V} {p:α→Bool} {l:List α} {h:List Row} (hp:∀x∈l,FSp P GL fid (.v (f x)::caps) h [.v (.bool (p x))] h):
  IdxR P GL fid caps (l.map f) h (l.findIdx? p) h:=by
 induction l with
 |nil=>exact⟨rfl,rfl⟩
 |cons x xs ih=>
  refine⟨p x,h,hp x (by simp),?_⟩;cases hx:p x with
  |true=>simp[qE,hx]
  |false=>
   simp only[oa,if_false];exact⟨_,ih λy hy=>hp y (by simp[hy]),by simp[qE,hx]⟩
theorem Fa {α:Type} (p:α→Bool) (l:List α):(l.findIdx? λx=> !p x).isSome= !l.all p:=by
 rw[Cl,List.not_all_eq_any_not]
theorem E5 {α:Type} (f:α→α→Bool):∀l:List α,CU f l=true↔∀(i:Nat) x y,l[i]?=some x→l[i+1]?=some y→f x y=true
 |[]=>by simp[CU]
 |[x]=>by simp[CU]
 |x::y::l=>by
  simp only[CU,oJ,E5 f (y::l)]
  constructor
  ·rintro⟨h1,h2⟩ i a b ha hb;cases i with
   |zero=>simp at ha hb;subst ha;subst hb;exact h1
   |succ i=>exact h2 i a b (by simpa using ha) (by simpa using hb)
  ·exact λh=>⟨h 0 x y rfl rfl,λi a b ha hb=>h (i+1) a b (by simpa using ha) (by simpa using hb)⟩
theorem fw (x:Dat) (b:Bool) (fd:D) (fid:Nat) (caps:List D) (hf:FV fd fid caps) (h:List Row) (q:Nat) (hq:h[q]?=some (.cells [fd])) (hl:Low h)
  (hp:∀H,Low H→(∀(i:Nat) y,h[i]?=some y→H[i]?=some y)→FX fid (.v x.V::caps) H [.v (.bool b)] H):FX 288 [.v x.V,.ref q 0] h [.v (.bool (!b))] h:=by
 refine Ak (D4 288) rfl (oN _) hl (by simp[D.lt]) ?_;have hq':=AV [.cells [.v (.int .i64 x.cl),.v (.int .i64 x.ix),.v (.int .i64 x.day),.v (.int .i64 x.file)]] hq;have hp':=hp _ (hl.app (row:= .cells [.v (.int .i64 x.cl),.v (.int .i64 x.ix),.v (.int .i64 x.day),.v (.int .i64 x.file)]) rfl) λ_ _ h=>AV _ h;have hcp:=hf.cp;have hfn:=hf.fn;have hny:=hf.ny;have hnt:=hf.nt;simp only[D.copy]at hcp
 try simp[Dat.V,]at hp'
 simp only[Ai 288,AE,AF,AA 288 0,AQ];simp[Dat.V,AA 288 1,hq',hcp,-DS,-D.norm];rw[hfn];simp;refine⟨_,_,hp',?_⟩;simp[AB,AW 288]
theorem iV (l:List Dat) (P:Dat→Bool) (fd:D) (fid:Nat) (caps:List D) (hf:FV fd fid caps) (hfc:fd.cells?=some [fd]) (hfr:fd.toRow=fd) (h:List Row) (hl:Low h) (hlow:D.lt h.length fd=true) (hn:l.length <2^40)
  (hp:∀x∈l,∀H,Low H→(∀(i:Nat) y,h[i]?=some y→H[i]?=some y)→FX fid (.v x.V::caps) H [.v (.bool (P x))] H):
  FX 217 [.v (.list (l.map Dat.V)),fd] h [.v (.bool (l.all P))] h:=by
 refine Ak (D4 217) rfl (oN _) hl (by simp[D.lt]) ?_;have hcp:=hf.cp;simp only[D.copy]at hcp;have hl2:Low (h++[.cells [fd]]):=hl.app (by simp[Row.low,D.lts,Eb (Nat.le_succ _) _ hlow]);have hidx:IdxR Tryz.prog Ah 288 [.ref h.length 0] (l.map Dat.V) (h++[.cells [fd]]) (l.findIdx? λx=> !P x) (h++[.cells [fd]]):=
  IdxR.map λx hx=>fw x (P x) fd fid caps hf _ h.length (Hj _ _) hl2 λH h1 h2=>hp x hx H h1 λi y hy=>h2 i y (AV _ hy)
 have hcf:=Zl (.func 288 [.ref h.length 0]) 288 [.ref h.length 0] (FV.r 288 h.length 0 []) (l.map Dat.V) (by simpa using hn) (by
  intro x hx;obtain⟨y,_,rfl⟩:=oP.1 hx;exact⟨_,rfl,rfl⟩) hidx
 rw[Fa]at hcf;simp only[Ai 217,AE,AF,AA 217 0,AQ];simp[hcp,hfc,hfr,-D.cells?,-D.toRow];simp only[AA 217 1];simp
 try simp at hcf
 refine⟨_,_,hcf,?_⟩;simp[AB,AW 217]
theorem fv (x:Int) (b:Bool) (fd:D) (fid:Nat) (caps:List D) (hf:FV fd fid caps) (h:List Row) (q:Nat) (hq:h[q]?=some (.cells [fd])) (hl:Low h)
  (hp:∀H,Low H→(∀(i:Nat) y,h[i]?=some y→H[i]?=some y)→FX fid (.v (.int .i64 x)::caps) H [.v (.bool b)] H):FX 289 [.v (.int .i64 x),.ref q 0] h [.v (.bool (!b))] h:=by
 refine Dh 289 ?_;have hq':=hq;have hp':=hp h hl λ_ _ h=>h;have hcp:=hf.cp;have hfn:=hf.fn;have hny:=hf.ny;have hnt:=hf.nt;simp only[D.copy]at hcp
 try simp[]at hp'
 simp only[Ai 289,AE,AF,AA 289 0,AQ];simp[AA 289 1,hq',hcp,-DS,-D.norm];rw[hfn];simp;refine⟨_,_,hp',?_⟩;simp[AB,AW 289]
theorem iR (l:List Int) (P:Int→Bool) (fd:D) (fid:Nat) (caps:List D) (hf:FV fd fid caps) (hfc:fd.cells?=some [fd]) (hfr:fd.toRow=fd) (h:List Row) (hl:Low h) (hlow:D.lt h.length fd=true) (hn:l.length <2^40)
  (hp:∀x∈l,∀H,Low H→(∀(i:Nat) y,h[i]?=some y→H[i]?=some y)→FX fid (.v (.int .i64 x)::caps) H [.v (.bool (P x))] H):
  FX 221 [.v (.list (l.map (V.int .i64))),fd] h [.v (.bool (l.all P))] h:=by
 refine Ak (D4 221) rfl (oN _) hl (by simp[D.lt]) ?_;have hcp:=hf.cp;simp only[D.copy]at hcp;have hl2:Low (h++[.cells [fd]]):=hl.app (by simp[Row.low,D.lts,Eb (Nat.le_succ _) _ hlow]);have hidx:IdxR Tryz.prog Ah 289 [.ref h.length 0] (l.map (V.int .i64)) (h++[.cells [fd]]) (l.findIdx? λx=> !P x) (h++[.cells [fd]]):=
  IdxR.map λx hx=>fv x (P x) fd fid caps hf _ h.length (Hj _ _) hl2 λH h1 h2=>hp x hx H h1 λi y hy=>h2 i y (AV _ hy)
 have hcf:=Ut (.func 289 [.ref h.length 0]) 289 [.ref h.length 0] (FV.r 289 h.length 0 []) (l.map (V.int .i64)) (by simpa using hn) (by
  intro x hx;obtain⟨y,_,rfl⟩:=oP.1 hx;exact⟨_,rfl⟩) hidx
 rw[Fa]at hcf;simp only[Ai 221,AE,AF,AA 221 0,AQ];simp[hcp,hfc,hfr,-D.cells?,-D.toRow];simp only[AA 221 1];simp
 try simp at hcf
 refine⟨_,_,hcf,?_⟩;simp[AB,AW 221]
theorem fj (x:Own) (b:Bool) (fd:D) (fid:Nat) (caps:List D) (hf:FV fd fid caps) (h:List Row) (q:Nat) (hq:h[q]?=some (.cells [fd])) (hl:Low h)
  (hp:∀H,Low H→(∀(i:Nat) y,h[i]?=some y→H[i]?=some y)→FX fid (.v x.V::caps) H [.v (.bool b)] H):FX 290 [.v x.V,.ref q 0] h [.v (.bool (!b))] h:=by
 refine Ak (D4 290) rfl (oN _) hl (by simp[D.lt]) ?_;have hq':=AV [.cells [.v (.int .i64 x.party),.v (.int .i64 x.num),.v (.int .i64 x.den)]] hq;have hp':=hp _ (hl.app (row:= .cells [.v (.int .i64 x.party),.v (.int .i64 x.num),.v (.int .i64 x.den)]) rfl) λ_ _ h=>AV _ h;have hcp:=hf.cp;have hfn:=hf.fn;have hny:=hf.ny;have hnt:=hf.nt;simp only[D.copy]at hcp
 try simp[Own.V,]at hp'
 simp only[Ai 290,AE,AF,AA 290 0,AQ];simp[Own.V,AA 290 1,hq',hcp,-DS,-D.norm];rw[hfn];simp;refine⟨_,_,hp',?_⟩;simp[AB,AW 290]
theorem iL (l:List Own) (P:Own→Bool) (fd:D) (fid:Nat) (caps:List D) (hf:FV fd fid caps) (hfc:fd.cells?=some [fd]) (hfr:fd.toRow=fd) (h:List Row) (hl:Low h) (hlow:D.lt h.length fd=true) (hn:l.length <2^40)
  (hp:∀x∈l,∀H,Low H→(∀(i:Nat) y,h[i]?=some y→H[i]?=some y)→FX fid (.v x.V::caps) H [.v (.bool (P x))] H):
  FX 225 [.v (.list (l.map Own.V)),fd] h [.v (.bool (l.all P))] h:=by
 refine Ak (D4 225) rfl (oN _) hl (by simp[D.lt]) ?_;have hcp:=hf.cp;simp only[D.copy]at hcp;have hl2:Low (h++[.cells [fd]]):=hl.app (by simp[Row.low,D.lts,Eb (Nat.le_succ _) _ hlow]);have hidx:IdxR Tryz.prog Ah 290 [.ref h.length 0] (l.map Own.V) (h++[.cells [fd]]) (l.findIdx? λx=> !P x) (h++[.cells [fd]]):=
  IdxR.map λx hx=>fj x (P x) fd fid caps hf _ h.length (Hj _ _) hl2 λH h1 h2=>hp x hx H h1 λi y hy=>h2 i y (AV _ hy)
 have hcf:=Z7 (.func 290 [.ref h.length 0]) 290 [.ref h.length 0] (FV.r 290 h.length 0 []) (l.map Own.V) (by simpa using hn) (by
  intro x hx;obtain⟨y,_,rfl⟩:=oP.1 hx;exact⟨_,rfl,rfl⟩) hidx
 rw[Fa]at hcf;simp only[Ai 225,AE,AF,AA 225 0,AQ];simp[hcp,hfc,hfr,-D.cells?,-D.toRow];simp only[AA 225 1];simp
 try simp at hcf
 refine⟨_,_,hcf,?_⟩;simp[AB,AW 225]
theorem fZ (x:Lic) (b:Bool) (fd:D) (fid:Nat) (caps:List D) (hf:FV fd fid caps) (h:List Row) (q:Nat) (hq:h[q]?=some (.cells [fd])) (hl:Low h)
  (hp:∀H,Low H→(∀(i:Nat) y,h[i]?=some y→H[i]?=some y)→FX fid (.v x.V::caps) H [.v (.bool b)] H):FX 294 [.v x.V,.ref q 0] h [.v (.bool (!b))] h:=by
 refine Ak (D4 294) rfl (oN _) hl (by simp[D.lt]) ?_;have hq':=AV [.cells [.v (.int .i64 x.fr),.v (.int .i64 x.to),.v (.int .i64 x.fst),.v (.int .i64 x.lst)]] hq;have hp':=hp _ (hl.app (row:= .cells [.v (.int .i64 x.fr),.v (.int .i64 x.to),.v (.int .i64 x.fst),.v (.int .i64 x.lst)]) rfl) λ_ _ h=>AV _ h;have hcp:=hf.cp;have hfn:=hf.fn;have hny:=hf.ny;have hnt:=hf.nt;simp only[D.copy]at hcp
 try simp[Lic.V,]at hp'
 simp only[Ai 294,AE,AF,AA 294 0,AQ];simp[Lic.V,AA 294 1,hq',hcp,-DS,-D.norm];rw[hfn];simp;refine⟨_,_,hp',?_⟩;simp[AB,AW 294]
theorem iH (l:List Lic) (P:Lic→Bool) (fd:D) (fid:Nat) (caps:List D) (hf:FV fd fid caps) (hfc:fd.cells?=some [fd]) (hfr:fd.toRow=fd) (h:List Row) (hl:Low h) (hlow:D.lt h.length fd=true) (hn:l.length <2^40)
  (hp:∀x∈l,∀H,Low H→(∀(i:Nat) y,h[i]?=some y→H[i]?=some y)→FX fid (.v x.V::caps) H [.v (.bool (P x))] H):
  FX 230 [.v (.list (l.map Lic.V)),fd] h [.v (.bool (l.all P))] h:=by
 refine Ak (D4 230) rfl (oN _) hl (by simp[D.lt]) ?_;have hcp:=hf.cp;simp only[D.copy]at hcp;have hl2:Low (h++[.cells [fd]]):=hl.app (by simp[Row.low,D.lts,Eb (Nat.le_succ _) _ hlow]);have hidx:IdxR Tryz.prog Ah 294 [.ref h.length 0] (l.map Lic.V) (h++[.cells [fd]]) (l.findIdx? λx=> !P x) (h++[.cells [fd]]):=
  IdxR.map λx hx=>fZ x (P x) fd fid caps hf _ h.length (Hj _ _) hl2 λH h1 h2=>hp x hx H h1 λi y hy=>h2 i y (AV _ hy)
 have hcf:=fc (.func 294 [.ref h.length 0]) 294 [.ref h.length 0] (FV.r 294 h.length 0 []) (l.map Lic.V) (by simpa using hn) (by
  intro x hx;obtain⟨y,_,rfl⟩:=oP.1 hx;exact⟨_,rfl,rfl⟩) hidx
 rw[Fa]at hcf;simp only[Ai 230,AE,AF,AA 230 0,AQ];simp[hcp,hfc,hfr,-D.cells?,-D.toRow];simp only[AA 230 1];simp
 try simp at hcf
 refine⟨_,_,hcf,?_⟩;simp[AB,AW 230]
theorem iT (l:List Dat) (hn:l.length≤2^40):PX 219 [.list (l.map Dat.V),.func 220 []] [.bool (CU Gb l)]:=by
 refine BJ 219 ?_;obtain⟨R,hR⟩:∃R,CU Gb l=R:=⟨_,rfl⟩;rw[hR];have hri:=E5 Gb l;have hmx:(if IntKind.i64.wrap ((l.length:Int)-1) <0 then 0 else IntKind.i64.wrap ((l.length:Int)-1))=((l.length-1:Nat):Int):=by
  rw[AL];split<;>omega
 simp only[Ai 219,AE,AF,AM,AA 219 0,AA 219 1,AX];simp[hmx];refine Al (l.length-1) (λk=>⟨[(0,.v (.list (l.map Dat.V))),(1,.v (.func 220 [])),(9,.v (.int .i64 (l.length-1:Nat))),(10,.v (.int .i64 k))],[]⟩) (λk=>∀j <k,∀x y,l[j]?=some x→l[j+1]?=some y→Gb x y=true) (by simp) (by simp) ?_;intro k hk hI;simp only[Zw,A8 219 0,AA 219 2];simp;by_cases hlt:k <l.length-1
 ·obtain⟨x,hx⟩:∃x,l[k]?=some x:=⟨_,oI (by omega)⟩;obtain⟨y,hy⟩:∃y,l[k+1]?=some y:=⟨_,oI (by omega)⟩;have hw:IntKind.i64.wrap ((k:Int)+1)=((k+1:Nat):Int):=AL;have hge:(0:Int)≤((k+1:Nat):Int):=by omega
  have hlt':(k:Int) <((l.length-1:Nat):Int):=by omega
  have hp:=(iS x y).fsp;have hnat:(((k+1:Nat):Int)).toNat=k+1:=by omega
  generalize hb:Gb x y=b at*;rw[if_pos (by omega),AD];simp only[AS,AA 219 3,AA 219 4];simp[Dat.V]at hp;simp only[pr,ro]at hw hge hnat;simp[hx,hy,Dat.V,hw,hge,hnat];refine⟨_,_,(hp []),?_⟩;cases b with
  |false=>
   have hf:R=false:=by
    rw[←hR];cases h:CU Gb l with
    |false=>rfl
    |true=>exact absurd ((hri.1 h k x y hx hy).symm.trans hb) (by decide)
   simp[AB,AA 219 5,AW 219,hf]
  |true=>
   simp[AD,AA 219 6,hw];refine⟨hlt,λj hj a c ha hc=>?_⟩;rcases om j k with h|h
   ·simpa using hI j h a c ha hc
   ·have:j=k:=by omega
    subst this;rw[hx]at ha;rw[hy]at hc;cases ha;cases hc;simpa using hb
 ·have hk2:k=l.length-1:=by omega
  have ht:R=true:=by
   rw[←hR];refine hri.2 λj a c ha hc=>hI j ?_ a c ha hc;have:=(oM.1 hc).1;omega
  rw[if_neg (by omega),AJ];simp[AB,AA 219 7,AW 219,ht]
theorem iO (l:List Int) (hn:l.length≤2^40):PX 223 [.list (l.map (V.int .i64)),.func 224 []] [.bool (CU (λa b=>decide (a <b)) l)]:=by
 refine BJ 223 ?_;obtain⟨R,hR⟩:∃R,CU (λa b=>decide (a <b)) l=R:=⟨_,rfl⟩;rw[hR];have hri:=E5 (λa b=>decide (a <b)) l;have hmx:(if IntKind.i64.wrap ((l.length:Int)-1) <0 then 0 else IntKind.i64.wrap ((l.length:Int)-1))=((l.length-1:Nat):Int):=by
  rw[AL];split<;>omega
 simp only[Ai 223,AE,AF,AM,AA 223 0,AA 223 1,AX];simp[hmx];refine Al (l.length-1) (λk=>⟨[(0,.v (.list (l.map (V.int .i64)))),(1,.v (.func 224 [])),(9,.v (.int .i64 (l.length-1:Nat))),(10,.v (.int .i64 k))],[]⟩) (λk=>∀j <k,∀x y,l[j]?=some x→l[j+1]?=some y→(λa b=>decide (a <b)) x y=true) (by simp) (by simp) ?_;intro k hk hI;simp only[Zw,A8 223 0,AA 223 2];simp;by_cases hlt:k <l.length-1
 ·obtain⟨x,hx⟩:∃x,l[k]?=some x:=⟨_,oI (by omega)⟩;obtain⟨y,hy⟩:∃y,l[k+1]?=some y:=⟨_,oI (by omega)⟩;have hw:IntKind.i64.wrap ((k:Int)+1)=((k+1:Nat):Int):=AL;have hge:(0:Int)≤((k+1:Nat):Int):=by omega
  have hlt':(k:Int) <((l.length-1:Nat):Int):=by omega
  have hp:=(iM x y).fsp;have hnat:(((k+1:Nat):Int)).toNat=k+1:=by omega
  generalize hb:(λa b=>decide (a <b)) x y=b at*;rw[if_pos (by omega),AD];simp only[AS,AA 223 3,AA 223 4];simp[hb]at hp;simp only[pr,ro]at hw hge hnat;simp[hx,hy,hw,hge,hnat];refine⟨_,_,(hp []),?_⟩;cases b with
  |false=>
   have hf:R=false:=by
    rw[←hR];cases h:CU (λa b=>decide (a <b)) l with
    |false=>rfl
    |true=>exact absurd ((hri.1 h k x y hx hy).symm.trans hb) (by decide)
   simp[AB,AA 223 5,AW 223,hf]
  |true=>
   simp[AD,AA 223 6,hw];refine⟨hlt,λj hj a c ha hc=>?_⟩;rcases om j k with h|h
   ·simpa using hI j h a c ha hc
   ·have:j=k:=by omega
    subst this;rw[hx]at ha;rw[hy]at hc;cases ha;cases hc;simpa using hb
 ·have hk2:k=l.length-1:=by omega
  have ht:R=true:=by
   rw[←hR];refine hri.2 λj a c ha hc=>hI j ?_ a c ha hc;have:=(oM.1 hc).1;omega
  rw[if_neg (by omega),AJ];simp[AB,AA 223 7,AW 223,ht]
theorem iJ (l:List Own) (hn:l.length≤2^40):PX 228 [.list (l.map Own.V),.func 229 []] [.bool (CU (λa b=>decide (a.party <b.party)) l)]:=by
 refine BJ 228 ?_;obtain⟨R,hR⟩:∃R,CU (λa b=>decide (a.party <b.party)) l=R:=⟨_,rfl⟩;rw[hR];have hri:=E5 (λa b=>decide (a.party <b.party)) l;have hmx:(if IntKind.i64.wrap ((l.length:Int)-1) <0 then 0 else IntKind.i64.wrap ((l.length:Int)-1))=((l.length-1:Nat):Int):=by
  rw[AL];split<;>omega
 simp only[Ai 228,AE,AF,AM,AA 228 0,AA 228 1,AX];simp[hmx];refine Al (l.length-1) (λk=>⟨[(0,.v (.list (l.map Own.V))),(1,.v (.func 229 [])),(9,.v (.int .i64 (l.length-1:Nat))),(10,.v (.int .i64 k))],[]⟩) (λk=>∀j <k,∀x y,l[j]?=some x→l[j+1]?=some y→(λa b=>decide (a.party <b.party)) x y=true) (by simp) (by simp) ?_;intro k hk hI;simp only[Zw,A8 228 0,AA 228 2];simp;by_cases hlt:k <l.length-1
 ·obtain⟨x,hx⟩:∃x,l[k]?=some x:=⟨_,oI (by omega)⟩;obtain⟨y,hy⟩:∃y,l[k+1]?=some y:=⟨_,oI (by omega)⟩;have hw:IntKind.i64.wrap ((k:Int)+1)=((k+1:Nat):Int):=AL;have hge:(0:Int)≤((k+1:Nat):Int):=by omega
  have hlt':(k:Int) <((l.length-1:Nat):Int):=by omega
  have hp:=(iI x y).fsp;have hnat:(((k+1:Nat):Int)).toNat=k+1:=by omega
  generalize hb:(λa b=>decide (a.party <b.party)) x y=b at*;rw[if_pos (by omega),AD];simp only[AS,AA 228 3,AA 228 4];simp[Own.V,hb]at hp;simp only[pr,ro]at hw hge hnat;simp[hx,hy,Own.V,hw,hge,hnat];refine⟨_,_,(hp []),?_⟩;cases b with
  |false=>
   have hf:R=false:=by
    rw[←hR];cases h:CU (λa b=>decide (a.party <b.party)) l with
    |false=>rfl
    |true=>exact absurd ((hri.1 h k x y hx hy).symm.trans hb) (by decide)
   simp[AB,AA 228 5,AW 228,hf]
  |true=>
   simp[AD,AA 228 6,hw];refine⟨hlt,λj hj a c ha hc=>?_⟩;rcases om j k with h|h
   ·simpa using hI j h a c ha hc
   ·have:j=k:=by omega
    subst this;rw[hx]at ha;rw[hy]at hc;cases ha;cases hc;simpa using hb
 ·have hk2:k=l.length-1:=by omega
  have ht:R=true:=by
   rw[←hR];refine hri.2 λj a c ha hc=>hI j ?_ a c ha hc;have:=(oM.1 hc).1;omega
  rw[if_neg (by omega),AJ];simp[AB,AA 228 7,AW 228,ht]
end
def Ju (A B R:Row) (xs:List Int):List Row:=[A,wr xs,.cells [.ref 1 0],B,R]
theorem Qf {x:Ivl} (hx:x.ok):∀n∈[x.ln,x.ld,x.hn,x.hd,Fw x.lo,Fw x.ho,Fw x.li,Fw x.hi],i64 n:=by
 intro n hn;simp at hn;rcases hn with rfl|rfl|rfl|rfl|rfl|rfl|rfl|rfl
 ·exact hx.1
 ·exact hx.2.1
 ·exact hx.2.2.1
 ·exact hx.2.2.2
 all_goals exact Qv _
def Ivl.row (x:Ivl):Row:= .cells [.v (.int .i64 x.ln),.v (.int .i64 x.ld),.v (.int .i64 x.hn),.v (.int .i64 x.hd),.v (.bool x.lo),.v (.bool x.ho),.v (.bool x.li),.v (.bool x.hi)]
theorem kI (A B R:Row) (ins:List Ivl) (hins:∀x∈ins,x.ok) (hl:ins.length≤2^40) (xs:List Int) (hb:xs.length+(ins.flatMap Bv).length≤2^43) (d6:D) (J:List Row):
  awp Tryz.prog Ah (.loop (lG 232 1)) (λe s=>e= .exit 2∧AG s.e 5= .ref 2 0∧AG s.e 6=d6∧s.h=Ju A B R (xs++ins.flatMap Bv)++(J++ins.map Ivl.row))
   ⟨[(5,.ref 2 0),(6,d6),(33,.v (.list (ins.map Ivl.V))),(34,.v (.int .i64 ins.length)),(35,.v (.int .i64 0))],Ju A B R xs++J⟩:=by
 refine AY ins.length (λk s=>s.e=[(5,.ref 2 0),(6,d6),(33,.v (.list (ins.map Ivl.V))),(34,.v (.int .i64 ins.length)),(35,.v (.int .i64 k))]∧s.h=Ju A B R (xs++(ins.take k).flatMap Bv)++(J++(ins.map Ivl.row).take k)) ⟨rfl,by simp⟩ ?_;rintro k ⟨se,sh⟩ hk ⟨he,hh⟩;simp only at he hh;subst he hh;simp only[Zw,A8 232 1,AA 232 11];simp;by_cases hlt:k <ins.length
 ·obtain⟨x,hx⟩:∃x,ins[k]?=some x:=⟨_,oI hlt⟩;have hxe:ins[k]=x:=(oM.1 hx).2;have ox:=hins x (oK hx);have hw:=Bb k;rw[if_pos (by omega),AD];simp only[AS,AA 232 12,AA 232 13];simp[hx,Ivl.V,AO,Ju];refine⟨_,_,⟨rfl,rfl⟩,_,Uo x.lo,_,_,⟨rfl,rfl⟩,_,Uo x.ho,_,_,⟨rfl,rfl⟩,_,Uo x.li,_,_,⟨rfl,rfl⟩,_,Uo x.hi,?_⟩;simp;have hle:=DY ins Bv (k+1);rw[BT hlt,hxe,oL]at hle;have hp:=λh hr=>Xc [x.ln,x.ld,x.hn,x.hd,Fw x.lo,Fw x.ho,Fw x.li,Fw x.hi] (Qf ox) (by simp) h 1 (xs++(ins.take k).flatMap Bv) hr (by rw[oL];omega);simp[AH]at hp;refine⟨_,_,hp _ rfl,?_⟩;have htk:ins.take (k+1)=ins.take k++[x]:=by rw[pX hlt,hxe]
  have htr:(ins.map Ivl.row).take (k+1)=(ins.map Ivl.row).take k++[x.row]:=by rw[←o8,htk,oh,o8];rfl
  simp[AA 232 14,hw,hlt,htk,-List.map_take];exact⟨rfl,htr.symm⟩
 ·have:k=ins.length:=by omega
  subst this;rw[if_neg (by omega),AJ];simp;exact o6 (by simp)
theorem dh (A B:Row) (e0:CB) (he:AG e0 5= .ref 2 0) (g:F) (hg:g.ok1) (hk:g.kids.length≤2^40) (xs:List Int) (hb:xs.length+(Cd g).length≤2^43) (J:List Row):
  Nk Tryz.prog Ah 4 [.v g.V] (Ju A B (Au Tryz.prog Ah .ready e0 [18] (lG 232 0) (lG 232 1000)) xs++J) true (Ju A B (Au Tryz.prog Ah .ready e0 [18] (lG 232 0) (lG 232 1000)) (xs++Cd g)++(J++(.cells g.cells::g.ins.map Ivl.row))):=by
 obtain⟨op,n,ins,kids⟩:=g;obtain⟨o1,o2,o3,o4⟩:=hg;simp only[F.op,F.n,F.ins,F.kids]at*;refine Cm (e0:=e0) (ps:=[18]) (asg:=(lG 232 0)) (body:=(lG 232 1000)) (by simp[Ju]) rfl ?_;simp only[F.cells,F.op,F.n,F.ins,F.kids,F.V_eq,Cd]at*;simp only[oL]at hb;have il:i64 (ins.length:Int):=by unfold i64;omega
 have kl:i64 (kids.length:Int):=by unfold i64;omega
 simp only[Fh,A8 232 0,A8 232 1000,AF,AM,AE,AA 232 6,AA 232 7,AA 232 8,AA 232 9,AA 232 10];simp[Ju,he,AO];refine⟨_,_,(XN op o1 _ 1 xs rfl (by omega)),?_⟩;simp;refine⟨_,_,(XN n o2 _ 1 (xs++AZ op) rfl (by simp;omega)),?_⟩;simp;refine⟨_,_,(XN ins.length il _ 1 (xs++(AZ op++AZ n)) (by simp) (by simp;omega)),?_⟩;simp;have hl:=kI A B (Au Tryz.prog Ah .busy e0 [18] (lG 232 0) (lG 232 1000)) ins o3 o4 (xs++(AZ op++(AZ n++AZ ins.length))) (by simp only[oL];omega) (.ref (J.length+5) 0) (J++[.cells [.v (.int .i64 op),.v (.int .i64 n),.v (.list (ins.map Ivl.V)),.v (.list (kids.map F.V))]]);simp[Ju]at hl;refine Ad _ ?_ hl;rintro e ⟨se,sh⟩ ⟨rfl,h5,h6,hh⟩;simp only at h5 h6 hh;subst hh;simp[AA 232 15,h5,h6];refine⟨_,_,(XN kids.length kl _ 1 (xs++(AZ op++(AZ n++(AZ ins.length++ins.flatMap Bv)))) (by simp) (by simp only[oL];omega)),?_⟩;simp[CJ];rfl
theorem dw (A B:Row) (e0:CB) (he:AG e0 5= .ref 2 0):∀(ns:List F),(∀g∈ns,g.ok1∧g.kids.length≤2^40)→∀xs:List Int,xs.length+(ns.flatMap Cd).length≤2^43→
  RunY Tryz.prog Ah 4 (ns.map F.V) (Ju A B (Au Tryz.prog Ah .ready e0 [18] (lG 232 0) (lG 232 1000)) xs) true (Ju A B (Au Tryz.prog Ah .ready e0 [18] (lG 232 0) (lG 232 1000)) (xs++ns.flatMap Cd)):=by
 intro ns;induction ns with
 |nil=>intro _ xs _;exact⟨rfl,by simp⟩
 |cons g ns ih=>
  intro hk xs hb;rw[oZ,oL]at hb;obtain⟨h1,h2⟩:=hk g (by simp);refine⟨true,Ju A B (Au Tryz.prog Ah .ready e0 [18] (lG 232 0) (lG 232 1000)) (xs++Cd g),rfl,λJ=>⟨_,dh A B e0 he g h1 h2 xs (by omega) J⟩,?_⟩;have:=ih (λx hx=>hk x (by simp[hx])) (xs++Cd g) (by rw[oL];omega);rw[oR]at this;exact this
theorem F.kids_le:∀f:F,∀g∈f.nodes,g.kids.length≤f.size:=by
 refine F.ind λop n ins kids ih g hg=>?_;rw[F.size_eq];rw[F.nodes_eq]at hg;rcases oO.1 hg with rfl|hg
 ·have:=F.kids_len kids;simp only[F.kids];omega
 ·obtain⟨k,hk,hg⟩:=pP.1 hg;have:=ih k hk g hg;have:=F.kid_size hk;omega
theorem Zx (f:F) (hok:f.ok) (hb:(BS f).length≤2^43):PX 232 [f.V] [AH .u8 (if BR f=0 then BS f else []),.int .i64 (BR f)]:=by
 refine BJ 232 ?_;have h1:=(ZW f hok).fsp;have h68:=dM f;have hsz:=hok.2;have hr:=dw (.cells f.cells) (.cells f.cells) (Hn [(5,.ref 2 0),(17,.func 147 [.ref 3 0])]) rfl f.nodes (λg hg=>⟨hok.1 g hg,by have:=F.kids_le f g hg;omega⟩) [] (by simpa[BS]using hb);obtain⟨J,hp⟩:=Uv f hok 4 3 _ _ _ hr rfl;have e0:([]:List Int)++f.nodes.flatMap Cd=BS f:=rfl;rw[e0]at hp;generalize BS f=bs at*;generalize BR f=er at*;obtain⟨op,n,ins,kids⟩:=f;simp only[F.cells,F.op,F.n,F.ins,F.kids,F.V_eq]at*;simp only[Zw,Ai 232,AA 232 0,AA 232 1,AA 232 2,AX];simp at h1 h68;simp;refine⟨_,_,h1 _,?_⟩;by_cases h0:er=0
 ·subst h0;simp[AD,AA 232 4,AA 232 5,AO];refine⟨_,_,h68 _,?_⟩;simp;refine Ct 147 [.ref 3 0] [] _ _ .ready rfl rfl hp rfl ?_;simp[CK,AA 232 16,Ju];refine⟨_,_,(Xb _ 1 bs rfl (by omega)),?_⟩;simp[AB,AW 232,AH]
 ·simp[h0,AB,AA 232 3,AW 232,AH]
section
def Bc (h:List Row) (r lw:Nat) (x:List Int) (lf:Int) (a b:Row):List Row:=(h.set r (Cu x)).set lw (.cells [.v (.int .i64 lf)])++[a,b]
section
variable {h:List Row} {r lw:Nat} (hr:r <h.length) (hl:lw <h.length) (hne:r≠lw) (x:List Int) (lf:Int) (a b:Row)
include hr hne
theorem KY:(Bc h r lw x lf a b)[r]?=some (Cu x):=by
 unfold Bc;rw[ov (by simpa using hr),ot (Ne.symm hne),pF (by simpa using hr)]
omit hr hne in
include hl in
theorem KZ:(Bc h r lw x lf a b)[lw]?=some (.cells [.v (.int .i64 lf)]):=by
 unfold Bc;rw[ov (by simpa using hl),pF (by simpa using hl)]
omit hr hne in
theorem Ud:(Bc h r lw x lf a b)[h.length]?=some a:=by
 unfold Bc;rw[pC (by simp)];simp
omit hr hne in
theorem Hf:(Bc h r lw x lf a b)[h.length+1]?=some b:=by
 unfold Bc;rw[pC (by simp)];simp
theorem Ih (y:List Int):(Bc h r lw x lf a b).set r (Cu y)=Bc h r lw y lf a b:=by
 unfold Bc;rw[rF _ _ (by simpa using hr),List.set_comm _ _ (Ne.symm hne),qc]
omit hr hne in
include hl in
theorem SV (m:Int):(Bc h r lw x lf a b).set lw (.cells [.v (.int .i64 m)])=Bc h r lw x m a b:=by
 unfold Bc;rw[rF _ _ (by simpa using hl),qc]
omit hr hne in
theorem SW (c:Row):(Bc h r lw x lf a b).set h.length c=Bc h r lw x lf c b:=by
 unfold Bc;rw[rH _ _ (by simp)];simp
omit hr hne in
theorem Ii (c:Row):(Bc h r lw x lf a b).set (h.length+1) c=Bc h r lw x lf a c:=by
 unfold Bc;rw[rH _ _ (by simp)];simp
omit hr hne in
theorem JT:(Bc h r lw x lf a b).length=h.length+2:=by simp[Bc]
end
def rB (op n:Int) (ins:List Ivl) (kids:List F):Row:= .cells [.v (.int .i64 op),.v (.int .i64 n),.own 368 8 (ins.map Ivl.V),.own 84 4 (kids.map F.V)]
theorem Yx (b:Bool):(Fw b==1)=b:=by cases b<;>rfl
variable {lw r:Nat} {h:List Row} {Q:AExit→St→Prop}
theorem cL (hr:r <h.length) (hl:lw <h.length) (hne:r≠lw) (X:Ivl) (hX:X.ok) (rest:List Int) (hb:rest.length≤2^43) (lf:Int) (hlf:0≤lf) (a:Row) (op m:Int) (ins:List Ivl)
  (n:Nat) (hn:n≤32) (hk:ins.length <n)
  (hQ:Q .normal ⟨[(0,.ref r 0),(1,.ref lw 0),(4,.ref h.length 0),(5,.ref (h.length+1) 0),(6,.v (.int .i64 n)),(7,.v (.int .i64 (ins.length+1)))],Bc h r lw rest lf a (rB op m (ins++[X]) [])⟩):
  awp Tryz.prog Ah (lG 320 0) Q ⟨[(0,.ref r 0),(1,.ref lw 0),(4,.ref h.length 0),(5,.ref (h.length+1) 0),(6,.v (.int .i64 n)),(7,.v (.int .i64 ins.length))],Bc h r lw (Bv X++rest) lf a (rB op m ins [])⟩:=by
 have k1:(n:Int)≤32:=by omega
 simp only[Zw,A8 320 0,AA 320 5];simp[hk,k1,hlf,KZ hl,AD];have p1:=Xa [X.ln,X.ld,X.hn,X.hd,Fw X.lo,Fw X.ho,Fw X.li,Fw X.hi] (by
  intro z hz;simp only[oO,o7,or_false]at hz;rcases hz with rfl|rfl|rfl|rfl|rfl|rfl|rfl|rfl
  ·exact hX.1
  ·exact hX.2.1
  ·exact hX.2.2.1
  ·exact hX.2.2.2
  all_goals (unfold Fw;split<;>(unfold i64;omega))) (Bc h r lw (Bv X++rest) lf a (rB op m ins [])) r rest (by simp;omega) (KY hr hne _ _ _ _)
 simp only[AA 320 7];simp;refine⟨_,_,p1,?_⟩;rw[Ih hr hne];simp only[AA 320 8];simp;have hroom:AU (ins.length+1) 40=true:=by simp[AU];omega
 have w1:IntKind.i64.wrap ((ins.length:Int)+1)=ins.length+1:=AL;simp only[AS,AA 320 11];simp[Hf,rB,AO,hroom,Yx,Ii];simp only[AA 320 6];simp[w1];simpa[rB,Ivl.V]using hQ
theorem YT (hr:r <h.length) (hl:lw <h.length) (hne:r≠lw) (rest:List Int) (lf:Int) (hlf:0≤lf) (a:Row) (op m:Int):∀(todo ins:List Ivl),(∀x∈todo,x.ok)→(ins++todo).length≤32→(todo.flatMap Bv++rest).length≤2^43→
  awp Tryz.prog Ah (.loop (lG 320 0)) (λe s=>e= .exit 0∧s=⟨[(0,.ref r 0),(1,.ref lw 0),(4,.ref h.length 0),(5,.ref (h.length+1) 0),(6,.v (.int .i64 (ins++todo).length)),(7,.v (.int .i64 (ins++todo).length)),(35,.v (.bool false))],Bc h r lw rest lf a (rB op m (ins++todo) [])⟩)
   ⟨[(0,.ref r 0),(1,.ref lw 0),(4,.ref h.length 0),(5,.ref (h.length+1) 0),(6,.v (.int .i64 (ins++todo).length)),(7,.v (.int .i64 ins.length))],Bc h r lw (todo.flatMap Bv++rest) lf a (rB op m ins [])⟩:=by
 intro todo;induction todo with
 |nil=>
  intro ins _ hn hb;refine As ?_;simp only[Zw,A8 320 0,AA 320 5];simp[AJ]
 |cons x todo ih=>
  intro ins hx hn hb;have h2:=ih (ins++[x]) (λy hy=>hx y (by simp[hy])) (by simpa using hn) (by simp at hb ⊢;omega);simp only[oR,sX]at h2;refine Bl (s1:=⟨[(0,.ref r 0),(1,.ref lw 0),(4,.ref h.length 0),(5,.ref (h.length+1) 0),(6,.v (.int .i64 (ins++x::todo).length)),(7,.v (.int .i64 (ins++[x]).length))],Bc h r lw (todo.flatMap Bv++rest) lf a (rB op m (ins++[x]) [])⟩) ?_ h2;have:=cL (Q:=λe s'=>match e with| .normal=>s'=⟨[(0,.ref r 0),(1,.ref lw 0),(4,.ref h.length 0),(5,.ref (h.length+1) 0),(6,.v (.int .i64 (ins++x::todo).length)),(7,.v (.int .i64 (ins++[x]).length))],Bc h r lw (todo.flatMap Bv++rest) lf a (rB op m (ins++[x]) [])⟩|e=>e= .exit 0∧s'=⟨[(0,.ref r 0),(1,.ref lw 0),(4,.ref h.length 0),(5,.ref (h.length+1) 0),(6,.v (.int .i64 (ins++x::todo).length)),(7,.v (.int .i64 (ins++x::todo).length)),(35,.v (.bool false))],Bc h r lw rest lf a (rB op m (ins++x::todo) [])⟩)
   hr hl hne x (hx x (by simp)) (todo.flatMap Bv++rest) (by simp at hb ⊢;omega) lf hlf a op m ins (ins++x::todo).length hn (by simp) (by simp)
  simp at this ⊢;refine Ad _ (λe s hh=>?_) this;cases e<;>exact hh
end
def isB (l:List Int):Prop:=∀x∈l,0≤x∧x <256
theorem isB.app {a b:List Int} (ha:isB a) (hb:isB b):isB (a++b):=λx hx=>(oc.1 hx).elim (ha x) (hb x)
theorem isB.flat {α:Type} {f:α→List Int} {l:List α} (h:∀x∈l,isB (f x)):isB (l.flatMap f):=λy hy=>by
 obtain⟨x,hx,hy⟩:=pP.1 hy;exact h x hx y hy
theorem isB.uvarF:∀(k:Nat) (n:Int),0≤n→n <128^(k+1)→isB (Go.Va.DP k n)
 |0,n,h0,h1=>by
  have e:(128:Int)^(0+1)=128:=by decide
  intro x hx;simp[Go.Va.DP]at hx;subst hx;omega
 |k+1,n,h0,h1=>by
  simp only[Go.Va.DP];split
  ·intro x hx;simp at hx;omega
  ·intro x hx;rcases oO.1 hx with rfl|hx
   ·omega
   ·exact isB.uvarF k (n/128) (by omega) (sI (by decide) (by rw[←pW];exact h1)) x hx
theorem isB.uvar {n:Int} (h0:0≤n) (h1:n <18446744073709551616):isB (Go.Va.E4 n):=by
 have e:(128:Int)^(9+1)=1180591620717411303424:=by decide
 exact isB.uvarF 9 n h0 (by omega)
theorem isB.encI {n:Int} (h:i64 n):isB (Go.Va.AZ n):=isB.uvar (Gq h).1 (Gq h).2
theorem isB.encInts {l:List Int} (h:∀n∈l,i64 n) (hl:l.length≤2^60):isB (Go.Va.A6 l):=(isB.uvar (by omega) (by omega)).app (isB.flat λn hn=>isB.encI (h n hn))
theorem isB.encRaw {l:List Int} (h:isB l) (hl:l.length≤2^60):isB (Go.Va.BE l):=(isB.uvar (by omega) (by omega)).app h
theorem isB.encF {f:F} (hf:f.ok):isB (Go.Va.BS f):=by
 refine isB.flat λg hg=>?_;obtain⟨h1,h2,h3,h4⟩:=hf.1 g hg;have hk:=F.kids_le f g hg;have hs:=hf.2;exact(isB.encI h1).app ((isB.encI h2).app ((isB.encI (by unfold i64;omega)).app ((isB.flat λx hx=>isB.encInts (Qf (h3 x hx)) (by simp)).app (isB.encI (by unfold i64;omega)))))
theorem isB.encClms {l:List Clm} (hl:∀c∈l,c.ok) (hn:l.length≤2^40) (hb:(Go.Va.BB l).length≤2^60):isB (Go.Va.BB l):=by
 refine(isB.encI (by unfold i64;omega)).app (isB.flat λc hc=>?_);obtain⟨o1,o2,o3⟩:=hl c hc;unfold Go.Va.BB at hb;rw[oL]at hb;have:=JA (f:=BL) hc;simp only[BL,oL,Go.Va.BE]at this;exact(isB.encInts o1 (by omega)).app (isB.encRaw (isB.encF o3) (by omega))
theorem IP {e:Nat→Int}:∀(m k:Nat),Fc e k m=0→∀j,k≤j→j <k+m→e j=0
 |0,k,_,j,h1,h2=>by omega
 |m+1,k,h,j,h1,h2=>by
  simp only[Fc]at h;split at h
  ·rename_i h3;exact absurd h h3
  ·rename_i h3;by_cases hj:j=k
   ·subst hj;simpa using h3
   ·exact IP m (k+1) h j (by omega) (by omega)
theorem Mg {l:List Clm} (h:CD l=0):∀c∈l,BR c.body=0:=by
 intro c hc;unfold CD at h;split at h
 ·cases h
 ·obtain⟨k,hk,hx⟩:=List.getElem_of_mem hc;have:=IP _ _ h k (by omega) (by omega);unfold JE at this;rw[oI hk,hx]at this;simp only[LZ]at this;split at this
  ·cases this
  ·split at this
   ·exact this
   ·cases this
theorem aI (l:List Clm) (hl:∀c∈l,c.ok) (hn:l.length≤2^40) (hb:(BB l).length≤2^39):PX 130 [.list (l.map Clm.V)] [AH .u8 (if CD l=0 then BB l else []),.int .i64 (CD l)]:=by
 refine BJ 130 ?_;have p1:=(XU l hl hn).fsp;have hz:CD l=0→∀c∈l,BR c.body=0:=Mg;have il:i64 (l.length:Int):=by unfold i64;omega
 generalize CD l=e at*;unfold BB at hb ⊢;rw[oL]at hb;simp only[Zw,Ai 130,AA 130 0,AA 130 1,AA 130 2,AX];simp;refine⟨_,_,p1 _,?_⟩;by_cases h:e=0
 ·subst h;have hz:=hz rfl;simp[AD,AA 130 4,AA 130 5];refine⟨_,_,(XN l.length il _ 0 [] rfl (by simp)),?_⟩;simp[AA 130 6];refine AY l.length (λk s=>s.e=[(5,.ref 0 0),(21,.v (.list (l.map Clm.V))),(22,.v (.int .i64 l.length)),(23,.v (.int .i64 k))]∧∃J,s.h=wr (AZ l.length++(l.take k).flatMap BL)::J) ⟨rfl,[],by simp⟩ ?_;rintro k ⟨se,sh⟩ hk ⟨he,J,hh⟩;simp only at he hh;subst he hh;simp only[Zw,A8 130 0,AA 130 7];simp;by_cases hlt:k <l.length
  ·obtain⟨x,hx⟩:∃x,l[k]?=some x:=⟨_,oI hlt⟩;have hxm:=oK hx;have hxe:l[k]=x:=(oM.1 hx).2;obtain⟨o1,o2,o3⟩:=hl x hxm;have hf:=hz x hxm;have hw:=Bb k;have hle:=DY l BL (k+1);rw[BT hlt,hxe,oL]at hle;have e:(l.take (k+1)).flatMap BL=(l.take k).flatMap BL++BL x:=by rw[BT hlt,hxe]
   have ec:(BL x).length=(A6 x.refs).length+(BE (BS x.body)).length:=by simp[BL]
   have er:(BE (BS x.body)).length=(E4 (BS x.body).length).length+(BS x.body).length:=by simp[BE]
   have p2:=(Zx x.body o3 (by omega)).fsp;have hp100:=λh hr=>Xc x.refs o1 o2 h 0 (AZ l.length++(l.take k).flatMap BL) hr (by rw[oL];omega);have hbytes:isB (BS x.body):=isB.encF o3;have hp99:=λh hr=>lq (BS x.body) hbytes (by omega) h 0 (AZ l.length++((l.take k).flatMap BL++A6 x.refs)) hr (by simp only[oL];omega);rw[F.V_flds,hf]at p2;have e2:BL x=A6 x.refs++BE (BS x.body):=rfl;generalize BE (BS x.body)=B at*;generalize A6 x.refs=A at*;generalize BS x.body=C at*;rw[if_pos (by omega),AD];simp only[AA 130 8,AA 130 9,AA 130 10];simp[AH]at p2 hp99 hp100;simp[hx,Clm.V,AH,AO];refine⟨_,_,p2 _,?_⟩;simp[AD,AA 130 12];refine⟨_,_,(hp100 _ rfl),?_⟩;simp[AA 130 13];refine⟨_,_,(hp99 _ rfl),?_⟩;simp[AA 130 14,hw,hlt,e,e2]
  ·have:k=l.length:=by omega
   subst this;rw[if_neg (by omega),AJ];simp[AA 130 15];refine⟨_,_,(Xb _ 0 (AZ l.length++l.flatMap BL) rfl (by rw[oL];omega)),?_⟩;simp[AB,AW 130,AH]
 ·simp[h,AB,AA 130 3,AW 130,AH]
end Go.Va
