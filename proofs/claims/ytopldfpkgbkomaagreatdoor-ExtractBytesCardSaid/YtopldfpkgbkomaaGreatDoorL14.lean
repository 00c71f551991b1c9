/- Laws that ExtractBytes leans on, part 14. No condition of its own. -/
import Derived.Test.YtopldfpkgbkomaaGreatDoorL11
set_option linter.all false
set_option maxRecDepth 100000
set_option maxHeartbeats 4000000
noncomputable section
namespace Go.Va
open Go.Proofs
theorem Ck (a n:Int) (hn:0 <n): -n <Aj a n∧Aj a n <n:=by
 have key:∀b:Int,-n <b.tmod n∧b.tmod n <n:=λb=>by
  have h1:=tI b hn;have h2:=tI (-b) hn;rw[Int.neg_tmod]at h2;omega
 unfold Aj;split<;>exact key _
theorem El (l:List Int) (i n:Int) (hn:0 <n): -n <Ai l i n∧Ai l i n <n:=by
 unfold Ai;split
 ·omega
 ·split
  ·exact Ck _ _ hn
  ·omega
def Gw (l:List Int) (i:Nat):Clm:=
 let k:=Ai l (2*i+1) 1000
 let m:=Ai l (2*i+2) 1048576
 ⟨if i=2∧(IntKind.i64.wrap (k.tdiv 16)).tmod 4=0 then [0,1] else if 0 <i∧(IntKind.i64.wrap (k.tdiv 4)).tmod 2=0 then [(IntKind.i64.wrap (k.tdiv 8)).tmod i] else [],
  if k.tmod 4=0 then .mk 5 0 [] [Dm m,Dm (IntKind.i64.wrap (k.tdiv 4))] else Dm m⟩
def Ic (l:List Int):Nat:=(1+Ai l 0 3).toNat
def CX (l:List Int):List Clm:=(List.range (Ic l)).map (Gw l)
theorem JQ (l:List Int):Ic l≤3:=by have:=El l 0 3 (by decide);unfold Ic;omega
def Vu:AC:=(.seq (.seq (.reg (oG 124 10) [0,3,4,5,6,7,46]) (.cond (.t 46 false) (.reg (oG 124 11) [0,3,4,5,6,7]) .skip)) (.seq (.seq (.reg (oG 124 12) [0,3,4,5,7,60]) (.cond (.t 60 false) (.reg (oG 124 13) [0,3,4,5,7]) .skip)) (.reg (oG 124 14) [0,3,4,5])))
def Vv:AC:=(.seq (.reg (oG 124 8) [0,3,4,5,6,7,30]) (.cond (.t 30 false) (.regD (oG 124 9) [0,3,4,5,6,7] [[],[0],[],[2],[2,3],[0,1,2,3,4],[0,1,2,3,4,5],[0,1,2,3,4,5,6],[0,1,2,3,4,5,6,7]]) .skip))
theorem TR:(lG 124 0)=(.seq (.seq (.reg (oG 124 4) [0,3,4,5,13]) (.cond (.t 13 false) .skip (.exit 0))) (.seq (.block 1 (.seq (.reg (oG 124 6) [0,3,4,5,6]) (.seq (.reg (oG 124 7) [0,3,4,5,6,7]) (.seq Vv Vu)))) (.reg (oG 124 5) [0,3,4,5]))):=(BA 124 0 :)
def Rh (i:Nat) (k:Int):List Int:=if i=2∧(IntKind.i64.wrap (k.tdiv 16)).tmod 4=0 then [0,1] else if 0 <i∧(IntKind.i64.wrap (k.tdiv 4)).tmod 2=0 then [(IntKind.i64.wrap (k.tdiv 8)).tmod i] else []
theorem fc (i:Nat) (k:Int) (b:F) (d0 d4 dI:D) (hdI:dI.copy= .v (.list (b.ins.map Ivl.V))) (xs:List V) (J:List Row) (hi:i≤3) (hxs:xs.length≤3) (hh:BG 5 xs=true) (Q:AExit→St→Prop)
  (hQ:∀J',Q .normal ⟨[(0,d0),(3,.own 130 5 (xs++[Clm.V ⟨Rh i k,b⟩])),(4,d4),(5,.v (.int .i64 i))],J'⟩):
  ∀e,AF e 0=d0→AF e 3= .own 130 5 xs→AF e 4=d4→AF e 5= .v (.int .i64 i)→AF e 6= .v (.int .i64 k)→AF e 7= .ref J.length 0→awp Tryz.prog An Vu Q ⟨e,
   J++[.cells [.own 3 1 [],.v (.int .i64 b.op),.v (.int .i64 b.n),dI,.v (.list (b.kids.map F.V))]]⟩:=by
 simp only[D.copy]at hdI;intro e f0 f3 f4 f5 f6 f7;have hroom:AK (xs.length+1) 88=true:=by simp[AK];omega
 have hq:∀(refs:List Int) J',refs=Rh i k→Q .normal ⟨[(0,d0),(3,.own 130 5 (xs++[V.agg [.list (refs.map (.int .i64)),.int .i64 b.op,.int .i64 b.n,.list (b.ins.map Ivl.V),.list (b.kids.map F.V)]])),(4,d4),(5,.v (.int .i64 i))],J'⟩:=by
  rintro refs J' rfl;exact hQ J'
 clear hQ;unfold Rh at hq;unfold Vu;simp only[AE,AG,AL,AA 124 10];simp[f0,f3,f4,f5,f6,f7];by_cases hi0:i=0
 ·subst hi0;simp[AB,AA 124 12,AA 124 14,hroom,hdI];exact hq [] _ (by simp)
 have hi1:0 <i:=by omega
 have hi1':(i:Int)≠0:=by omega
 by_cases h2:(IntKind.i64.wrap (k.tdiv 4)).tmod 2=0
 ·simp[hi1,h2,AA 124 11,hi0];by_cases h3:i=2
  ·subst h3;by_cases h4:(IntKind.i64.wrap (k.tdiv 16)).tmod 4=0
   ·simp[AA 124 12,h4,AA 124 13,AA 124 14,hroom,hdI];exact hq [0,1] _ (by simp[h4])
   ·simp[AA 124 12,h4,AB,AA 124 14,hroom,hdI];exact hq [(IntKind.i64.wrap (k.tdiv 8)).tmod 2] _ (by simp[h4,h2])
  ·have h3':¬(i:Int)=2:=by omega
   simp[AA 124 12,h3',AB,AA 124 14,hroom,hdI];exact hq [(IntKind.i64.wrap (k.tdiv 8)).tmod i] _ (by simp[h3,h2,hi1])
 ·simp[hi1,h2,AB];by_cases h3:i=2
  ·subst h3;by_cases h4:(IntKind.i64.wrap (k.tdiv 16)).tmod 4=0
   ·simp[AA 124 12,h4,AA 124 13,AA 124 14,hroom,hdI];exact hq [0,1] _ (by simp[h4])
   ·simp[AA 124 12,h4,AA 124 14,hroom,hdI];exact hq [] _ (by simp[h4,h2])
  ·have h3':¬(i:Int)=2:=by omega
   simp[AA 124 12,h3',AA 124 14,hroom,hdI];exact hq [] _ (by simp[h3,h2])
theorem fe (k:Int) (f g:F) (hg:PX 212 [.int .i64 (IntKind.i64.wrap (k.tdiv 4))] [g.V]) (d0 d4 d5:D) (xs:List V) (J:List Row) (Q:AExit→St→Prop)
  (hQ:∀(b:F) e (dI:D),dI.copy= .v (.list (b.ins.map Ivl.V))→b=(if k.tmod 4=0 then .mk 5 0 [] [f,g] else f)→AF e 0=d0→AF e 3= .own 130 5 xs→AF e 4=d4→AF e 5=d5→AF e 6= .v (.int .i64 k)→AF e 7= .ref J.length 0→Q .normal ⟨e,
   J++[.cells [.own 3 1 [],.v (.int .i64 b.op),.v (.int .i64 b.n),dI,.v (.list (b.kids.map F.V))]]⟩):
  awp Tryz.prog An Vv Q ⟨[(0,d0),(3,.own 130 5 xs),(4,d4),(5,d5),(6,.v (.int .i64 k)),(7,.ref J.length 0)],
   J++[.cells [.own 3 1 [],.v (.int .i64 f.op),.v (.int .i64 f.n),.v (.list (f.ins.map Ivl.V)),.v (.list (f.kids.map F.V))]]⟩:=by
 unfold Vv;simp only[AE,AG,AL,AA 124 8];simp;by_cases h4:k.tmod 4=0
 ·rw[if_pos h4]at hQ ⊢;have hQ:=hQ _ [(0,d0),(3,.own 130 5 xs),(4,d4),(5,d5),(6,.v (.int .i64 k)),(7,.ref J.length 0)] (.own 368 8 []) rfl rfl rfl rfl rfl rfl rfl rfl;simp only[F.op,F.n,F.kids,qR,rW]at hQ;rw[F.V_flds]at hg;rw[F.V_flds f,F.V_flds g]at hQ;simp only[AW,AA 124 9];simp;refine⟨_,_,⟨rfl,rfl⟩,_,hg,?_⟩;simp[AS];exact hQ
 ·rw[if_neg h4]at hQ ⊢;rw[AB];exact hQ f _ _ rfl rfl rfl rfl rfl rfl rfl rfl
theorem mF (l:List Int):PX 124 [AH .i64 l] [.list ((CX l).map Clm.V)]:=by
 refine BU 124 ?_;have p1:=(Rp l 0 3 (by decide)).fsp;have hb:=El l 0 3 (by decide);have hm:Ic l=(1+Ai l 0 3).toNat:=rfl;have hm3:=JQ l;have w1:IntKind.i64.wrap (1+Ai l 0 3)=1+Ai l 0 3:=AQ;simp[AH]at p1;simp only[At 124,AE,AG,AU,AA 124 0,AA 124 1,AA 124 2,AA 124 3,AV];simp[AH];refine⟨_,_,p1 _,?_⟩;simp[w1];generalize 1+Ai l 0 3=M at*;refine Al (Ic l) (λi s=>s.e=[(0,.v (AH .i64 l)),(3,.own 130 5 ((List.range i).map λj=>(Gw l j).V)),(4,.v (.int .i64 M)),(5,.v (.int .i64 i))]) (by simp[AH]) ?_;rintro i ⟨se,J⟩ hi he;simp only at he;subst he;rw[TR];simp only[Zw,AA 124 4];simp[AH];by_cases hlt:i <Ic l
 ·have hlt':(i:Int) <M:=by omega
  have v1:IntKind.i64.wrap (2*(i:Int))=2*i:=AQ;have v2:IntKind.i64.wrap (2*(i:Int)+1)=2*i+1:=AQ;have v3:IntKind.i64.wrap (2*(i:Int)+2)=2*i+2:=AQ;have hw:=Bo i;have p2:=(Rp l (2*i+1) 1000 (by decide)).fsp;have p3:=(Rp l (2*i+2) 1048576 (by decide)).fsp;have hcl:∀b,b=(if (Ai l (2*i+1) 1000).tmod 4=0 then F.mk 5 0 [] [Dm (Ai l (2*i+2) 1048576),Dm (IntKind.i64.wrap ((Ai l (2*i+1) 1000).tdiv 4))] else Dm (Ai l (2*i+2) 1048576))→(⟨Rh i (Ai l (2*i+1) 1000),b⟩:Clm)=Gw l i:=by
   rintro b rfl;rfl
  have p4:=(dg (Ai l (2*i+2) 1048576)).fsp;have p5:=dg (IntKind.i64.wrap ((Ai l (2*i+1) 1000).tdiv 4));generalize Ai l (2*i+1) 1000=k at*;generalize Ai l (2*i+2) 1048576=m at*;generalize Dm m=f at*;generalize Dm (IntKind.i64.wrap (k.tdiv 4))=g at*;rw[F.V_flds]at p4;simp[AH]at p2 p3 p4;rw[if_pos hlt',AB];simp only[AA 124 6];simp[v1,v2];refine⟨_,_,p2 _,?_⟩;simp[AA 124 7,v1,v3];refine⟨_,_,p3 _,?_⟩;simp;refine⟨_,_,p4 _,?_⟩;simp[AS];refine fe k f g p5 _ _ _ _ J _ ?_;intro b e dI hdI hbb f0 f3 f4 f5 f6 f7;simp only[];refine fc i k b _ _ dI hdI _ J (by omega) (by simp;omega) ?_ _ ?_ e f0 f3 f4 f5 f6 f7
  ·cases i with
   |zero=>rfl
   |succ i=>simp[tm,Clm.V]
  ·intro J';rw[hcl b hbb];simp[AA 124 5,hw,hlt,sG]
 ·have:i=Ic l:=by omega
  subst this;have hlt':¬((Ic l:Nat):Int) <M:=by omega
  rw[if_neg hlt',AJ];simp[AD,AA 124 15,AX 124,CX,tH]
def TK (l:List Int) (i:Nat):Dat:=⟨i,(Ai l (4+i) 1000).tmod 3,IntKind.i64.wrap (36000+(Ai l (4+i) 1000).tmod 50),(Ai l (4+i) 1000).tmod 20⟩
def Mh (l:List Int) (i:Nat):Option Int:=if (Ai l (4+i) 1000).tmod 5=0 then some i else none
def Uc (l:List Int) (i:Nat):Own:=⟨IntKind.i64.wrap (1+2*i+(Ai l (9+i) 1000).tmod 2),1,Ai l 8 3⟩
def Nw (l:List Int) (i:Nat):Option Lic:=
 let k:=Ai l (9+i) 1000
 if k.tmod 3=0 then some ⟨IntKind.i64.wrap (1+k.tmod 5),IntKind.i64.wrap (2+k.tmod 7),k,IntKind.i64.wrap (k+IntKind.i64.wrap (k.tdiv 7))⟩ else none
def ET (l:List Int):Rgt:=
 ⟨Ai l 0 40,Ai l 1 5,if Ai l 2 3=0 then Ai l 3 5 else 0,CX l,(List.range (CX l).length).map (TK l),(List.range (CX l).length).filterMap (Mh l),
  (List.range (Ai l 8 3).toNat).map (Uc l),(List.range (Ai l 8 3).toNat).filterMap (Nw l)⟩
theorem Kj (l:List Int):(CX l).length≤3:=by have:=JQ l;simpa[CX]using this
def mkR (a b c:Int) (cl:List Clm) (ds:List Dat) (bad:List Int) (os:List Own) (ls:List Lic):Row:=
 .cells [.v (.int .i64 a),.v (.int .i64 b),.v (.int .i64 c),.v (.list (cl.map Clm.V)),.own 131 4 (ds.map Dat.V),.own 3 1 (bad.map (.int .i64)),.own 135 3 (os.map Own.V),.own 137 4 (ls.map Lic.V)]
theorem fB (l:List Int) (a b c:Int) (cl:List Clm) (hcl:cl.length≤3) (R0:Row):
  awp Tryz.prog An (.loop (lG 48 0)) (λe s=>e= .exit 0∧AF s.e 0= .v (AH .i64 l)∧AF s.e 2= .ref 0 0∧AF s.e 3= .ref 1 0∧s.h=[R0,mkR a b c cl ((List.range cl.length).map (TK l)) ((List.range cl.length).filterMap (Mh l)) [] []])
   ⟨[(0,.v (AH .i64 l)),(2,.ref 0 0),(3,.ref 1 0),(4,.v (.int .i64 0))],[R0,mkR a b c cl [] [] [] []]⟩:=by
 refine AM cl.length (λi=>⟨[(0,.v (AH .i64 l)),(2,.ref 0 0),(3,.ref 1 0),(4,.v (.int .i64 i))],[R0,mkR a b c cl ((List.range i).map (TK l)) ((List.range i).filterMap (Mh l)) [] []]⟩) (by simp) ?_;intro i hi;simp only[Zw,BA 48 0,AA 48 5];simp[mkR];by_cases hlt:i <cl.length
 ·have v1:IntKind.i64.wrap (4+(i:Int))=4+i:=AQ;have hw:=Bo i;have p1:=(Rp l (4+i) 1000 (by decide)).fsp;have hlb:((List.range i).filterMap (Mh l)).length≤i:=by have:=sR (Mh l) (List.range i);simpa using this
  have r1:AK (i+1) 32=true:=by simp[AK];omega
  have r2:AK (((List.range i).filterMap (Mh l)).length+1) 8=true:=by simp[AK];omega
  simp[AH]at p1;have hd:TK l i=⟨i,(Ai l (4+i) 1000).tmod 3,IntKind.i64.wrap (36000+(Ai l (4+i) 1000).tmod 50),(Ai l (4+i) 1000).tmod 20⟩:=rfl;have hb:Mh l i=if (Ai l (4+i) 1000).tmod 5=0 then some (i:Int) else none:=rfl;generalize Ai l (4+i) 1000=k at*;rw[if_pos (by omega),AB];simp only[AA 48 7];simp[v1,AH];refine⟨_,_,p1 _,?_⟩;simp[AA 48 8,AS,r1];by_cases h5:k.tmod 5=0
  ·simp[AA 48 9,h5,AA 48 10,r2,AA 48 6,hw,hlt,sG,hd,hb,Dat.V]
  ·simp[AA 48 9,h5,AB,AA 48 6,hw,hlt,sG,hd,hb,Dat.V]
 ·have:i=cl.length:=by omega
  subst this;rw[if_neg (by omega),AJ];simp
theorem fA (l:List Int) (a b c:Int) (cl:List Clm) (ds:List Dat) (bad:List Int) (R0:Row):
  awp Tryz.prog An (.loop (lG 48 1)) (λe s=>e= .exit 2∧AF s.e 2= .ref 0 0∧AF s.e 3= .ref 1 0∧s.h=[R0,mkR a b c cl ds bad ((List.range (Ai l 8 3).toNat).map (Uc l)) ((List.range (Ai l 8 3).toNat).filterMap (Nw l))])
   ⟨[(0,.v (AH .i64 l)),(2,.ref 0 0),(3,.ref 1 0),(6,.v (.int .i64 (Ai l 8 3))),(7,.v (.int .i64 0))],[R0,mkR a b c cl ds bad [] []]⟩:=by
 have hN:=El l 8 3 (by decide);have hO:∀i,Uc l i=⟨IntKind.i64.wrap (1+2*i+(Ai l (9+i) 1000).tmod 2),1,Ai l 8 3⟩:=λ_=>rfl;generalize Ai l 8 3=N at*;refine AM N.toNat (λi=>⟨[(0,.v (AH .i64 l)),(2,.ref 0 0),(3,.ref 1 0),(6,.v (.int .i64 N)),(7,.v (.int .i64 i))],[R0,mkR a b c cl ds bad ((List.range i).map (Uc l)) ((List.range i).filterMap (Nw l))]⟩) (by simp) ?_;intro i hi;simp only[Zw,BA 48 1,AA 48 13];simp[mkR];by_cases hlt:i <N.toNat
 ·have hlt':(i:Int) <N:=by omega
  have v1:IntKind.i64.wrap (9+(i:Int))=9+i:=AQ;have v2:IntKind.i64.wrap (2*(i:Int))=2*i:=AQ;have v3:IntKind.i64.wrap (1+2*(i:Int))=1+2*i:=AQ;have hw:=Bo i;have p1:=(Rp l (9+i) 1000 (by decide)).fsp;have hlb:((List.range i).filterMap (Nw l)).length≤i:=by have:=sR (Nw l) (List.range i);simpa using this
  have r1:AK (i+1) 24=true:=by simp[AK];omega
  have r2:AK (((List.range i).filterMap (Nw l)).length+1) 32=true:=by simp[AK];omega
  simp[AH]at p1;have hd:=hO i;have hb:Nw l i=if (Ai l (9+i) 1000).tmod 3=0 then some ⟨IntKind.i64.wrap (1+(Ai l (9+i) 1000).tmod 5),IntKind.i64.wrap (2+(Ai l (9+i) 1000).tmod 7),(Ai l (9+i) 1000),IntKind.i64.wrap ((Ai l (9+i) 1000)+IntKind.i64.wrap ((Ai l (9+i) 1000).tdiv 7))⟩ else none:=rfl;generalize Ai l (9+i) 1000=k at*;rw[if_pos (by omega),AB];simp only[AA 48 15];simp[v1,AH];refine⟨_,_,p1 _,?_⟩;simp[AA 48 16,AS,r1,v2,v3];by_cases h5:k.tmod 3=0
  ·simp[AA 48 17,h5,AA 48 18,AS,r2,AA 48 14,hw,hlt',sG,hd,hb,Own.V,Lic.V]
  ·simp[AA 48 17,h5,AB,AA 48 14,hw,hlt',sG,hd,hb,Own.V]
 ·have:i=N.toNat:=by omega
  subst this;rw[if_neg (by omega),AJ];simp
def bR:AC:=(.seq (.seq (.reg (oG 48 4) [0,2,3,4]) (.block 0 (.loop (lG 48 0)))) (.seq (.reg (oG 48 11) [0,2,3,6]) (.seq (.seq (.reg (oG 48 12) [0,2,3,6,7]) (.block 2 (.loop (lG 48 1)))) (.seq (.reg (oG 48 19) [2]) .ret))))
theorem bS:(gA 48)=(.seq (.reg (oG 48 0) [0,2]) (.seq (.reg (oG 48 1) [0,2,3]) (.seq (.seq (.reg (oG 48 2) [0,2,3,18]) (.cond (.t 18 false) (.reg (oG 48 3) [0,2,3]) .skip)) bR))):=(At 48 :)
theorem pO (l:List Int):PX 48 [AH .i64 l] [(ET l).V]:=by
 refine BU 48 ?_;have p1:=(Rp l 0 40 (by decide)).fsp;have p2:=(Rp l 1 5 (by decide)).fsp;have p3:=(mF l).fsp;have p4:=(Rp l 2 3 (by decide)).fsp;have p5:=(Rp l 3 5 (by decide)).fsp;have p6:=(Rp l 8 3 (by decide)).fsp;have hl0:=λc R0=>fB l (Ai l 0 40) (Ai l 1 5) c (CX l) (Kj l) R0;have hl1:=λc ds bad R0=>fA l (Ai l 0 40) (Ai l 1 5) c (CX l) ds bad R0;simp[AH,mkR]at p1 p2 p3 p4 p5 p6 hl0 hl1;rw[bS];simp only[AE,AG,AL,AA 48 0,AA 48 1,AV];simp[AH];refine⟨_,_,p1 _,?_⟩;simp;refine⟨_,_,p2 _,?_⟩;simp;refine⟨_,_,p3 _,?_⟩;simp[AS,AA 48 2];refine⟨_,_,p4 _,?_⟩;simp;have fin:∀(c:Int) (e:CH),AF e 0= .v (AH .i64 l)→AF e 2= .ref 0 0→AF e 3= .ref 1 0→c=(if Ai l 2 3=0 then Ai l 3 5 else 0)→
   awp Tryz.prog An bR (λe s=>(match e with| .exit _=>False|_=>True)∧Bw s (gR 48)=some [(ET l).V])
    ⟨e,[.cells [.v (.int .i64 0),.v (.int .i64 0),.v (.int .i64 0),.own 130 5 [],.own 131 4 [],.own 3 1 [],.own 135 3 [],.own 137 4 []],
     .cells [.v (.int .i64 (Ai l 0 40)),.v (.int .i64 (Ai l 1 5)),.v (.int .i64 c),.v (.list ((CX l).map Clm.V)),.own 131 4 [],.own 3 1 [],.own 135 3 [],.own 137 4 []]]⟩:=by
  intro c e f0 f2 f3 hc;unfold bR;simp only[AE,AG,AU,AA 48 4];simp[f0,f2,f3,AH];refine AZ _ ?_ (hl0 c _);rintro e ⟨se,sh⟩ ⟨rfl,g0,g2,g3,hh⟩;simp only at g0 g2 g3 hh;subst hh;simp[AA 48 11,g0,g2,g3];refine⟨_,_,p6 _,?_⟩;simp[AA 48 12];have q:=hl1 c ((List.range (CX l).length).map (TK l)) ((List.range (CX l).length).filterMap (Mh l)) (.cells [.v (.int .i64 0),.v (.int .i64 0),.v (.int .i64 0),.own 130 5 [],.own 131 4 [],.own 3 1 [],.own 135 3 [],.own 137 4 []]);simp at q;refine AZ _ ?_ q;rintro e ⟨se,sh⟩ ⟨rfl,g2,g3,hh⟩;simp only at g2 g3 hh;subst hh;simp[AA 48 19,g2,g3,AD,AX 48,AS,ET,Rgt.V,Rgt.cs,AH,hc]
 by_cases h0:Ai l 2 3=0
 ·simp[h0,AA 48 3];refine⟨_,_,p5 _,?_⟩;simp[AS];exact fin _ _ rfl rfl rfl (by simp[h0])
 ·simp[h0,AB];exact fin _ _ rfl rfl rfl (by simp[h0])
section
theorem EA (n:Int):i64 (IntKind.i64.wrap n):=by
 have h1:=Int.emod_nonneg n (b:=18446744073709551616) (by decide);have h2:=Int.emod_lt_of_pos n (b:=18446744073709551616) (by decide);unfold IntKind.wrap i64;simp only[IntKind.bits,IntKind.signed];have e1:((2:Int)^64)=18446744073709551616:=by decide
 have e2:((2:Int)^(64-1))=9223372036854775808:=by decide
 simp only[e1,e2,rC,decide_eq_true_eq,ge_iff_le];split<;>omega
theorem Ts (b n:Int) (hn:0 <n): -n <b.tmod n∧b.tmod n <n:=by
 have h1:=tI b hn;have h2:=tI (-b) hn;rw[Int.neg_tmod]at h2;omega
theorem IC (b n:Int) (hn:0 <n) (h:n≤2^40):i64 (b.tmod n):=by have:=Ts b n hn;unfold i64;omega
theorem UY (l:List Int) (i n:Int) (hn:0 <n) (h:n≤2^40):i64 (Ai l i n):=by have:=El l i n hn;unfold i64;omega
structure F.tiny (m:Nat) (f:F):Prop where
 one:∀g∈f.nodes,g.ok1∧g.ins.length≤1
 len:f.nodes.length≤m
 size:f.size≤m
theorem F.tiny.ok {m:Nat} {f:F} (h:f.tiny m) (hm:m≤2^20):f.ok:=⟨λg hg=>(h.one g hg).1,by have:=h.size;omega⟩
theorem K9 {α:Type} {f:α→List Int} (c:Nat):∀l:List α,(∀x∈l,(f x).length≤c)→(l.flatMap f).length≤c*l.length
 |[],_=>by simp
 |x::l,h=>by
  have h1:=h x (by simp);have h2:=K9 c l λy hy=>h y (by simp[hy]);simp only[qN,qG,qT,td];omega
theorem Fb (l:List Int):(Ah l).length≤10+10*l.length:=by
 have h1:=Aw l.length;have h2:=Au l;rw[Ah,qG];omega
variable {m:Nat}
theorem F.tiny.enc {f:F} (h:f.tiny m):(By f).length≤200*m:=by
 have key:=K9 (f:=C7) 200 f.nodes λg hg=>by
  have h1:=(h.one g hg).2;have h2:=K9 (f:=Ce) 100 g.ins λx _=>by
   have:=Fb [x.ln,x.ld,x.hn,x.hd,E4 x.lo,E4 x.ho,E4 x.li,E4 x.hi];simp only[qT,ra]at this;exact qo this (by decide)
  have:=AO g.op;have:=AO g.n;have:=AO g.ins.length;have:=AO g.kids.length;simp only[C7,qG];omega
 have:=h.len;have:200*f.nodes.length≤200*m:=tf _ this;exact qo key this
theorem Fs (k:Int):(DJ k).tiny 1:=by
 refine⟨?_,by simp[DJ,F.nodes_eq],by simp[DJ,F.size_eq]⟩;simp only[DJ,F.nodes_eq,sr,qO,forall_eq,F.ok1,F.op,F.n,F.ins];exact⟨⟨by unfold i64;omega,IC _ _ (by decide) (by decide),by simp,by simp⟩,by simp⟩
theorem KX (k:Int):(Db k).tiny 1:=by
 refine⟨?_,by simp[Db,F.nodes_eq],by simp[Db,F.size_eq]⟩;simp only[Db,F.nodes_eq,sr,qO,forall_eq,F.ok1,F.op,F.n,F.ins];exact⟨⟨by unfold i64;omega,IC _ _ (by decide) (by decide),⟨IC _ _ (by decide) (by decide),by simp[i64],EA _,by simp[i64]⟩,by simp⟩,by simp⟩
theorem F8 {op:Int} {kids:List F} (ho:i64 op) (hk:∀k∈kids,k.tiny m):(F.mk op 0 [] kids).tiny (1+m*kids.length):=by
 have s:∀l:List F,(∀k∈l,k.tiny m)→(l.flatMap F.nodes).length≤m*l.length∧(l.map F.size).sum≤m*l.length:=by
  intro l;induction l with
  |nil=>simp
  |cons x l ih=>
   intro h;have h1:=h x (by simp);have h2:=ih λk hk=>h k (by simp[hk]);have:=h1.len;have:=h1.size;simp only[qN,qG,qT,qR,rq,td];omega
 have s1:=s kids hk;refine⟨?_,by rw[F.nodes_eq,qT];omega,by rw[F.size_eq];omega⟩;intro g hg;rw[F.nodes_eq]at hg;rcases qL.1 hg with rfl|hg
 ·exact⟨⟨ho,by simp[F.n,i64],by simp[F.ins],by simp[F.ins]⟩,by simp[F.ins]⟩
 ·obtain⟨k,hk1,hk2⟩:=rM.1 hg;exact(hk k hk1).one g hk2
variable {n:Nat}
theorem F.tiny.mono {f:F} (h:f.tiny m) (hn:m≤n):f.tiny n:=⟨h.one,qo h.len hn,qo h.size hn⟩
theorem KW (n:Int):(Dm n).tiny 3:=by
 unfold Dm;generalize Aj n 1048576=k;have o:∀n:Int,0≤n→n≤6→i64 n:=λn h1 h2=>by unfold i64;omega
 simp only
 repeat' split
 ·exact(Fs k).mono (by decide)
 ·exact(KX k).mono (by decide)
 ·exact(F8 (m:=1) (o _ (by decide) (by decide)) (by simp[Fs,KX])).mono (by simp)
 ·exact(F8 (m:=1) (o _ (by decide) (by decide)) (by simp[Fs])).mono (by simp)
 ·exact(F8 (m:=1) (o _ (by decide) (by decide)) (by simp[Fs])).mono (by simp)
structure Clm.tiny (c:Clm):Prop where
 refs:∀n∈c.refs,i64 n
 lr:c.refs.length≤2
 body:c.body.tiny 7
theorem Clm.tiny.ok {c:Clm} (h:c.tiny):c.ok:=⟨h.refs,by have:=h.lr;omega,h.body.ok (by decide)⟩
theorem H3 (l:List Int) (i:Nat) (hi:i≤3):(Gw l i).tiny:=by
 unfold Gw;generalize Ai l (2*i+1) 1000=k;generalize Ai l (2*i+2) 1048576=m;refine⟨?_,?_,?_⟩
 ·simp only;split
  ·simp[i64]
  ·split
   ·rename_i h;simp only[qO,forall_eq];exact IC _ _ (by omega) (by omega)
   ·simp
 ·simp only;split
  ·simp
  ·split<;>simp
 ·simp only;split
  ·exact(F8 (m:=3) (by unfold i64;omega) (by simp[KW])).mono (by simp)
  ·exact(KW m).mono (by decide)
structure Rgt.tiny (m:Nat) (r:Rgt):Prop where
 file:i64 r.file
 state:i64 r.state
 force:i64 r.force
 claims:∀c∈r.claims,c.tiny
 dates:∀d∈r.dates,d.ok
 bad:∀n∈r.bad,i64 n
 owners:∀o∈r.owners,o.ok
 lics:∀h∈r.lics,h.ok
 lc:r.claims.length≤m
 ld:r.dates.length≤m
 lb:r.bad.length≤m
 lo:r.owners.length≤m
 ll:r.lics.length≤m
theorem TH {c:Clm} (h:c.tiny):(BT c).length≤1500:=by
 have h1:=Fb c.refs;have h2:=h.lr;have h3:=h.body.enc;have h4:=Aw (By c.body).length;simp only[BT,AY,qG];omega
theorem Fc {l:List Clm} (h:∀c∈l,c.tiny):(A8 l).length≤10+1500*l.length:=by
 have h1:=K9 (f:=BT) 1500 l λc hc=>TH (h c hc);have h2:=AO l.length;simp only[A8,qG];omega
theorem Rgt.tiny.ok {m:Nat} {r:Rgt} (h:r.tiny m) (hm:m≤2^20):r.ok:=by
 have:=h.lc;have:=h.ld;have:=h.lb;have:=h.lo;have:=h.ll;have:=Fc h.claims;exact⟨h.file,h.state,h.force,λc hc=>(h.claims c hc).ok,h.dates,h.bad,h.owners,h.lics,by omega,by omega,by omega,by omega,by omega,by omega⟩
theorem QY (l:List Int):(ET l).tiny 3:=by
 have hc:=Kj l;have hp:=El l 8 3 (by decide);have o:∀i n:Int,0 <n→n≤2^40→i64 (Ai l i n):=λi n=>UY l i n;refine⟨o 0 40 (by decide) (by decide),o 1 5 (by decide) (by decide),?_,?_,?_,?_,?_,?_,hc,?_,?_,?_,?_⟩
 ·simp only[ET];split
  ·exact o 3 5 (by decide) (by decide)
  ·simp[i64]
 ·intro c h;simp only[ET,CX,qX,qj]at h;obtain⟨i,hi,rfl⟩:=h;have:=JQ l;exact H3 l i (by omega)
 ·intro d h;simp only[ET,qX,qj]at h;obtain⟨i,hi,rfl⟩:=h;exact⟨by simp only[TK];unfold i64;omega,IC _ _ (by decide) (by decide),EA _,IC _ _ (by decide) (by decide)⟩
 ·intro n h;simp only[ET,List.mem_filterMap,qj,Mh]at h;obtain⟨i,hi,h⟩:=h;split at h
  ·simp only[qF]at h;subst h;unfold i64;omega
  ·simp at h
 ·intro w h;simp only[ET,qX,qj]at h;obtain⟨i,hi,rfl⟩:=h;exact⟨EA _,by simp[Uc,i64],o 8 3 (by decide) (by decide)⟩
 ·intro w h;simp only[ET,List.mem_filterMap,qj,Nw]at h;obtain⟨i,hi,h⟩:=h;split at h
  ·simp only[qF]at h;subst h;exact⟨EA _,EA _,o (9+i) 1000 (by decide) (by decide),EA _⟩
  ·simp at h
 ·simp only[ET,qr,tg];exact hc
 ·have:=sR (Mh l) (List.range (CX l).length);simp only[ET];rw[tg]at this;omega
 ·simp only[ET,qr,tg];omega
 ·have:=sR (Nw l) (List.range (Ai l 8 3).toNat);simp only[ET];rw[tg]at this;omega
end
end Go.Va
