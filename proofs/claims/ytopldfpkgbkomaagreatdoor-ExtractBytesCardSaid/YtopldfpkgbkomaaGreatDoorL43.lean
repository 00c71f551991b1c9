/- Laws that ExtractBytes leans on, part 43. No condition of its own. -/
import Derived.Test.YtopldfpkgbkomaaGreatDoorL42
set_option linter.all false
set_option maxRecDepth 100000
set_option maxHeartbeats 4000000
noncomputable section
namespace Go.Va
open Go.Proofs
section
def Hi (n:Int) (k:Nat):Int:=if k=0 then 7 else if k=1 then 0 else if k=2 then 1+Aj n 5 else 36000
theorem PH (n:Int) (hn:i64 n) (k:Nat):i64 (Hi n k):=by
 have h1:=CU n 5 hn;have h2:=(Ck n 5 (by decide)).2;unfold Hi i64;split<;>(try split)<;>(try split)<;>omega
theorem SR (l l2:List Int) (n:Int) (hn:i64 n) (k:Nat) (hk:k <4):Fx l k (Hi n k) (A6 l2)=0:=by
 have h1:=CU n 5 hn;have h2:=(Ck n 5 (by decide)).2;obtain⟨e0,e1,e2,e3⟩:=Xu l l2 (n5:=1+Aj n 5) (by omega);have:k=0∨k=1∨k=2∨k=3:=by omega
 rcases this with rfl|rfl|rfl|rfl
 ·exact e0
 ·exact e1
 ·exact e2
 ·exact e3
def iZ:AC:=match ll 8 0 with| .seq _ (.seq (.block _ b) _)=>b|_=> .skip
def cX:AC:=iZ.R.R
def qC:AC:=cX.R
def iE:AC:=qC.R
theorem iD:lG 8 0= .seq (.seq (.reg (oG 8 7) [2,3,4,5,7,17,19,20,21,65]) (.cond (.t 65 false) .skip (.exit 0))) (.seq (.block 1 iZ) (.reg (oG 8 8) [2,3,4,5,7,17,19,20,21])):=(BA 8 0 :)
variable {i:Nat}
theorem jC (W:List Int) (hi:i <W.length) (d:Int) (kz:Nat):AS ((W.map (V.int .u8)).map D.v++List.replicate kz D.any) i [.v (.int .u8 d)]=((W.set i d).map (V.int .u8)).map D.v++List.replicate kz D.any:=by
 have h1:AS ((W.map (V.int .u8)).map D.v++List.replicate kz D.any) i [.v (.int .u8 d)]=((W.map (V.int .u8)).map D.v++List.replicate kz D.any).set i (.v (.int .u8 d)):=by
  rw[s9,if_pos (by simp;omega)];simp[AS]
 rw[h1,rp _ _ (by simpa using hi)];simp
section
variable (l l2:List Int) (n how at_ by_ c:Int) (hn:i64 n) (hh:i64 how) (ha:i64 at_) (hb:i64 by_) (hc:0≤c∧c <256)
def e8 (es:CH):CH:=(2,.v (.int .i64 n))::(3,.v (.int .i64 how))::(4,.v (.int .i64 at_))::(5,.v (.int .i64 by_))::(7,.v (.int .u8 c))::(17,.ref 1 0)::(19,.ref 2 0)::es
def aY (T:List (List Int)) (k:Nat):CH:=e8 n how at_ by_ c [(20,.own 62 1 (T.map (AH .u8))),(21,.v (.int .i64 k))]
def oA (T:List (List Int)) (k:Nat):CH:=e8 n how at_ by_ c [(20,.own 62 1 (T.map (AH .u8))),(21,.v (.int .i64 k)),(65,.v (.bool true))]
include hn
theorem pk (T:List (List Int)) (k:Nat) (hk:k <4) (J:List Row) (hJ:Lows J) (Q:AExit→St→Prop)
  (hQ:∀es,AF es 2= .v (.int .i64 n)→AF es 3= .v (.int .i64 how)→AF es 4= .v (.int .i64 at_)→AF es 5= .v (.int .i64 by_)→AF es 7= .v (.int .u8 c)→AF es 17= .ref 1 0→AF es 19= .ref 2 0→AF es 20= .own 62 1 (T.map (AH .u8))→AF es 21= .v (.int .i64 k)→AF es 22= .ref ((G2 l).length+(J.length+1)) 0→
   awp Tryz.prog An cX Q ⟨es,G2 l++(.cells (A6 l2).cells::(J++[(Ew l k (Hi n k) (A6 l2)).row]))⟩):
  awp Tryz.prog An iZ Q ⟨oA n how at_ by_ c T k,G2 l++(.cells (A6 l2).cells::J)⟩:=by
 have hE:=SR l l2 n hn k hk;have hkc:(k:Int)=0∨(k:Int)=1∨(k:Int)=2∨(k:Int)=3:=by omega
 have hfit:=SX l2;have hlowT:∀m,Row.low m (.cells (A6 l2).cells)=true:=λm=>R2 m _;have q:=λZ (hZ:Lows Z)=>jA l (Hi n k) hfit.ok (h:=G2 l++(.cells (A6 l2).cells::Z)) ((cF l).lows λrow hrow m=>(qL.1 hrow).elim (λh=>by rw[h];exact hlowT m) λh=>hZ row h m) (oI l _) (oJ l _) hfit.size hkc;rw[hE]at q;have q11:=MW n 5 (by decide);have b1:=CU n 5 hn;have b2:=(Ck n 5 (by decide)).2;have w1:IntKind.i64.wrap (1+Aj n 5)=1+Aj n 5:=AQ;have hL:([.int .i64 7,.int .i64 0,.int .i64 (1+Aj n 5),.int .i64 36000]:List V)[k]?=some (.int .i64 (Hi n k)):=by
  have:k=0∨k=1∨k=2∨k=3:=by omega
  rcases this with rfl|rfl|rfl|rfl<;>rfl
 obtain⟨x0,x1,x2,x3,x4,x5,x6,x7,x8,x9,x10,x11,x12,hxc⟩:=J6 (X:=(Ew l k (Hi n k) (A6 l2)).cs) rfl;have hV:(Ew l k (Hi n k) (A6 l2)).V= .agg [x0,x1,x2,x3,x4,x5,x6,x7,x8,x9,x10,x11,x12]:=by show V.agg _=_;rw[hxc]
 have hrow:(Ew l k (Hi n k) (A6 l2)).row= .cells [.v x0,.v x1,.v x2,.v x3,.v x4,.v x5,.v x6,.v x7,.v x8,.v x9,.v x10,.v x11,.v x12]:=by show Row.cells (_:List D)=_;rw[hxc];rfl
 rw[hV]at q;rw[hrow]at hQ;generalize Hi n k=N at*;obtain⟨⟨tc,tv,tp⟩,ht⟩:∃t,t=A6 l2:=⟨_,rfl⟩;rw[←ht]at q hQ ⊢;have qa:=q J hJ;have qb:=q (J++[Fz]) (hJ.app λm=>rfl);have hk4:(k:Int) <4:=by omega
 obtain⟨_,hg⟩:=qK.1 hL;have hGl:(G2 l).length=2:=by rw[SV];rfl
 have hg2:∀Z:List Row,(G2 l++(.cells (Th.mk tc tv tp).cells::Z))[2]?=some (.cells (Th.mk tc tv tp).cells):=λZ=>by
  rw[ql (by omega),hGl];rfl
 generalize G2 l=H at*;simp only[Th.V_eq,Th.cells,Th.cs,Th.vs,Th.ps,AH,Fz]at*;rw[show iZ= .seq (.regA (oG 8 9) _ _ _) (.seq (.seq (.reg (oG 8 10) _) (.cond _ _ .skip)) cX) from rfl];generalize cX=C at*;simp only[AE,AL,oA,e8];rw[CO];refine CT _ (λs hs=>⟨s,.inl rfl,hs⟩) ?_;simp only[AA 8 9];simp;refine⟨_,_,⟨rfl,rfl⟩,_,q11,?_⟩;simp[w1,hk,hg,hg2]
 constructor
 ·refine⟨_,_,qa,?_⟩;simp[AS,D.toRow];simp only[AA 8 10];simp[AB];exact hQ _ rfl rfl rfl rfl rfl rfl rfl rfl rfl rfl
 ·refine⟨_,_,qb,?_⟩;simp[AS,D.toRow];simp only[AA 8 10];simp[AB];exact hQ _ rfl rfl rfl rfl rfl rfl rfl rfl rfl rfl
include hh ha hb
theorem pj (T:List (List Int)) (k:Nat) (J:List Row) (es:CH) (f2:AF es 2= .v (.int .i64 n)) (f3:AF es 3= .v (.int .i64 how)) (f4:AF es 4= .v (.int .i64 at_)) (f5:AF es 5= .v (.int .i64 by_)) (f7:AF es 7= .v (.int .u8 c)) (f17:AF es 17= .ref 1 0) (f19:AF es 19= .ref 2 0) (f20:AF es 20= .own 62 1 (T.map (AH .u8))) (f21:AF es 21= .v (.int .i64 k)) (f22:AF es 22= .ref ((G2 l).length+(J.length+1)) 0) (Q:AExit→St→Prop)
  (hQ:∀es J2,Lows J2→AF es 2= .v (.int .i64 n)→AF es 3= .v (.int .i64 how)→AF es 4= .v (.int .i64 at_)→AF es 5= .v (.int .i64 by_)→AF es 7= .v (.int .u8 c)→AF es 17= .ref 1 0→AF es 19= .ref 2 0→AF es 20= .own 62 1 (T.map (AH .u8))→AF es 21= .v (.int .i64 k)→AF es 22= .ref ((G2 l).length+(J.length+1)) 0→
   awp Tryz.prog An iE Q ⟨es,G2 l++(.cells (A6 l2).cells::(J++(Ew l k (Hi n k) (A6 l2)).row::J2))⟩):
  awp Tryz.prog An cX Q ⟨es,G2 l++(.cells (A6 l2).cells::(J++[(Ew l k (Hi n k) (A6 l2)).row]))⟩:=by
 have ht:=ID l2;have hts:(A6 l2).size≤100:=by have:=(RU (I5 l2 0)).2.1;unfold A6;omega
 obtain⟨an,aw,as_⟩:=MI l (PH n hn k) ht hts k;obtain⟨y,yn,qy⟩:=pR _ how at_ by_ an aw as_ hh ha hb;generalize Ew l k (Hi n k) (A6 l2)=a at*;have hloop:=λd2 d3 d4 d5 d7 d17 d19 d20 d21 d22 H Q=>pm d2 d3 d4 d5 d7 d17 d19 d20 d21 d22 a y an.up yn H Q;obtain⟨x0,x1,x2,x3,x4,x5,x6,x7,x8,x9,x10,x11,x12,hxc⟩:=J6 (X:=a.cs) rfl;have hV:a.V= .agg [x0,x1,x2,x3,x4,x5,x6,x7,x8,x9,x10,x11,x12]:=by show V.agg _=_;rw[hxc]
 have hrow:a.row= .cells [.v x0,.v x1,.v x2,.v x3,.v x4,.v x5,.v x6,.v x7,.v x8,.v x9,.v x10,.v x11,.v x12]:=by show Row.cells (_:List D)=_;rw[hxc];rfl
 obtain⟨y0,y1,y2,y3,y4,y5,y6,y7,y8,y9,y10,y11,y12,hyc⟩:=J6 (X:=y.cs) rfl;have hyV:y.V= .agg [y0,y1,y2,y3,y4,y5,y6,y7,y8,y9,y10,y11,y12]:=by show V.agg _=_;rw[hyc]
 rw[hV,hyV]at qy;rw[hV,hyV]at hloop;rw[hrow]at hQ ⊢;generalize T.map (AH .u8)=TV at*;generalize G2 l=H at*;generalize (A6 l2).cells=TC at*;simp only[XU]at hloop;rw[show cX= .seq (.regD (oG 8 12) _ _) (.seq (.seq (.reg (oG 8 13) _) (.block 2 (.loop (lG 8 1)))) iE) from rfl];generalize iE=C at*;simp only[AE,AG,AU,AW,AA 8 12];simp[f3,f4,f5,f22,D.vs?,D.v?];refine⟨_,_,⟨rfl,rfl⟩,_,qy,?_⟩;simp;simp only[AA 8 13];simp;refine hloop _ _ _ _ _ _ _ _ _ _ _ _ ?_;rintro e J2 hJ2 ⟨g2,g3,g4,g5,g7,g17,g19,g20,g21,g22⟩;simp;exact hQ e J2 hJ2 (g2.trans f2) (g3.trans f3) (g4.trans f4) (g5.trans f5) (g7.trans f7) (g17.trans f17) (g19.trans f19) (g20.trans f20) (g21.trans f21) (g22.trans f22)
include hc
omit hh ha hb in
theorem ph (T:List (List Int)) (hT:T.length≤100) (k:Nat) (hk:k <4) (J J2:List Row) (hJ:Lows J) (hJ2:Lows J2) (es:CH) (f2:AF es 2= .v (.int .i64 n)) (f3:AF es 3= .v (.int .i64 how)) (f4:AF es 4= .v (.int .i64 at_)) (f5:AF es 5= .v (.int .i64 by_)) (f7:AF es 7= .v (.int .u8 c)) (f17:AF es 17= .ref 1 0) (f19:AF es 19= .ref 2 0) (f20:AF es 20= .own 62 1 (T.map (AH .u8))) (f21:AF es 21= .v (.int .i64 k)) (f22:AF es 22= .ref ((G2 l).length+(J.length+1)) 0) (Q:AExit→St→Prop)
  (hQ:∀J3 T3,Lows J3→T3.length=3→(∀b∈T3,isB b∧b.length≤2^30)→Q .normal ⟨aY n how at_ by_ c (T++T3) k,G2 l++(.cells (A6 l2).cells::J3)⟩):
  awp Tryz.prog An iE Q ⟨es,G2 l++(.cells (A6 l2).cells::(J++(Ew l k (Hi n k) (A6 l2)).row::J2))⟩:=by
 have ht:=ID l2;have hts:(A6 l2).size≤100:=by have:=(RU (I5 l2 0)).2.1;unfold A6;omega
 obtain⟨an,aw,as_⟩:=MI l (PH n hn k) ht hts k;have hz:Fa (Ew l k (Hi n k) (A6 l2))=0:=Td l k (Hi n k) (I5 l2 0) (SR l l2 n hn k hk);generalize Ew l k (Hi n k) (A6 l2)=a at*;have q42:=(jS a an.up.fit).fsp;have hEl:=an.up.enc;have hEB:isB (DP a):=isB.encE an.up.fit an.up.B hz;have hEp:0 <(DP a).length:=VM;rw[hz,if_pos rfl]at q42;generalize DP a=W at*;have hka:i64 (IntKind.i64.wrap (at_+k)):=EA _;have q11:=(MW (IntKind.i64.wrap (at_+k)) W.length (by omega)).fsp;have g1:=CU (IntKind.i64.wrap (at_+k)) W.length hka;have g2:=(Ck (IntKind.i64.wrap (at_+k)) W.length (by omega)).2;obtain⟨i,hi⟩:∃i:Nat,Aj (IntKind.i64.wrap (at_+k)) W.length=i:=⟨(Aj (IntKind.i64.wrap (at_+k)) W.length).toNat,by omega⟩;rw[hi]at q11 g1 g2;have hil:i <W.length:=by omega
 obtain⟨x0,x1,x2,x3,x4,x5,x6,x7,x8,x9,x10,x11,x12,hxc⟩:=J6 (X:=a.cs) rfl;have hV:a.V= .agg [x0,x1,x2,x3,x4,x5,x6,x7,x8,x9,x10,x11,x12]:=by show V.agg _=_;rw[hxc]
 have hrow:a.row= .cells [.v x0,.v x1,.v x2,.v x3,.v x4,.v x5,.v x6,.v x7,.v x8,.v x9,.v x10,.v x11,.v x12]:=by show Row.cells (_:List D)=_;rw[hxc];rfl
 rw[hV]at q42;rw[hrow];have hW:=Gq .u8 W;have hne:W≠[]:=List.length_pos_iff.1 hEp;have hr1:AK W.length 1=true:=by simp[AK];omega
 have hr2:AK (W.length+1) 1=true:=by simp[AK];omega
 have hr3:AK (T.length+3) 24=true:=by simp[AK];omega
 have hwi:=Bo i;have hwk:=Bo k;simp only[AH]at q42;simp at q42 q11;have hTl:(T.map (AH .u8)).length=T.length:=by simp
 have hQ:=hQ;simp only[aY,e8,qh]at hQ;generalize T.map (AH .u8)=TV at*;generalize G2 l=H at*;generalize (A6 l2).cells=TC at*;rw[show iE= .seq (.reg (oG 8 25) _) (.seq (.reg (oG 8 26) _) (.seq (.reg (oG 8 27) _) (.seq (.reg (oG 8 28) _) (.seq (.reg (oG 8 29) _) (.seq (.regD (oG 8 30) _ _) (.reg (oG 8 31) _)))))) from rfl];simp only[AE,AG,AW,AA 8 25];have e1:(H++Row.cells TC::(J++ .cells [.v x0,.v x1,.v x2,.v x3,.v x4,.v x5,.v x6,.v x7,.v x8,.v x9,.v x10,.v x11,.v x12]::J2))[H.length+(J.length+1)]?=some (.cells [.v x0,.v x1,.v x2,.v x3,.v x4,.v x5,.v x6,.v x7,.v x8,.v x9,.v x10,.v x11,.v x12]):=by
  rw[ql (by omega)];simp
 obtain⟨RR,hRR⟩:∃RR,H++Row.cells TC::(J++ .cells [.v x0,.v x1,.v x2,.v x3,.v x4,.v x5,.v x6,.v x7,.v x8,.v x9,.v x10,.v x11,.v x12]::J2)=RR:=⟨_,rfl⟩;rw[hRR]at e1 ⊢;simp[f22,e1,D.vs?,D.v?];refine⟨_,_,q42 _,?_⟩;simp[f2,f3,f4,f5,f7,f17,f19,f20,f21];simp only[AA 8 26];simp;refine⟨_,_,q11 _,?_⟩;simp only[AA 8 27];simp[hW,hr1,hne];intro kz;rw[Nx];have hst:=jC W hil c kz;have hl2:i+1≤((W.map (V.int .u8)).map D.v++List.replicate kz D.any).length:=by simp;omega
 obtain⟨Z,hZ⟩:∃Z,((W.set i c).map (V.int .u8)).map D.v++List.replicate kz D.any=Z:=⟨_,rfl⟩;rw[hZ]at hst;generalize (W.map (V.int .u8)).map D.v++List.replicate kz D.any=ds at*;simp only[AA 8 28];simp[hil,hl2,hst];simp only[AA 8 29,AA 8 30];have hi1:i≤W.length:=by omega
 have ho1:(D.vs? (Z.take W.length))=some ((W.set i c).map (V.int .u8)):=by
  have h1:W.length=(((W.set i c).map (V.int .u8)).map D.v).length:=by simp
  rw[←hZ,h1,List.take_left];exact Kz _
 have hh1:BG 1 ((W.map (V.int .u8)).take i)=true:=by rw[←rE];exact Gq _ _
 have hh2:BG 1 ((W.map (V.int .u8)).drop (i+1))=true:=by rw[←ro];exact Gq _ _
 have hr4:AK i 1=true:=by simp[AK];omega
 have hr5:AK (i+(W.length-(i+1))) 1=true:=by simp[AK];omega
 have ht1:(W.map (V.int .u8)).take W.length=W.map (V.int .u8):=qw (by simp);have hil1:i+1≤W.length:=by omega
 have hm1:min i W.length=i:=by omega
 have hi0:(0:Int)≤(i:Int)+1:=by omega
 simp[hwi,hi0,hi1,hil1,hh1,hh2,hr4,hr5,ht1,hm1];simp only[AA 8 31];simp;refine⟨(W.set i c).map (.int .u8),by simp,?_,?_,?_⟩
 ·intro v hv;obtain⟨q,_,rfl⟩:=qX.1 hv;rfl
 ·rw[Nx];exact ho1
 have hr3':AK (TV.length+3) 24=true:=by rw[hTl];exact hr3
 simp[hr1,hr2,hr3'];have hlow:Lows (J++ .cells [.v x0,.v x1,.v x2,.v x3,.v x4,.v x5,.v x6,.v x7,.v x8,.v x9,.v x10,.v x11,.v x12]::(J2++[.dead])):=by
  refine hJ.both λrow hrow m=>?_;rcases qL.1 hrow with rfl|hrow
  ·simp[Row.low,D.lts,D.lt]
  ·rcases qW.1 hrow with hrow|hrow
   ·exact hJ2 row hrow m
   ·rw[qO.1 hrow];rfl
 have:=hQ _ [W.set i c,W.take i++W.drop (i+1),W++[c]] hlow rfl (by
  intro b hb;simp only[qL,qn,or_false]at hb;rcases hb with rfl|rfl|rfl
  ·refine⟨λx hx=>?_,by rw[rD];omega⟩;rcases rn hx with hx|rfl
   ·exact hEB x hx
   ·exact hc
  ·refine⟨λx hx=>?_,by simp only[qG,qv,List.length_drop];omega⟩;rcases qW.1 hx with hx|hx
   ·exact hEB x (rK hx)
   ·exact hEB x (rh hx)
  ·refine⟨λx hx=>?_,by simp only[qG,qT,ra];omega⟩;rcases qW.1 hx with hx|hx
   ·exact hEB x hx
   ·rw[qO.1 hx];exact hc)
 have e2:RR++[.dead]=H++Row.cells TC::(J++ .cells [.v x0,.v x1,.v x2,.v x3,.v x4,.v x5,.v x6,.v x7,.v x8,.v x9,.v x10,.v x11,.v x12]::(J2++[.dead])):=by rw[←hRR];simp
 rw[e2];simpa[AH]using this
theorem pn (T0:List (List Int)) (hT0:T0.length≤1) (hTB:∀b∈T0,isB b∧b.length≤2^30) (Q:AExit→St→Prop)
  (hQ:∀e J (T:List (List Int)),T.length≤20→(∀b∈T,isB b∧b.length≤2^30)→AF e 20= .own 62 1 (T.map (AH .u8))→Q (.exit 0) ⟨e,J⟩):
  awp Tryz.prog An (.loop (lG 8 0)) Q ⟨aY n how at_ by_ c T0 0,G2 l++[.cells (A6 l2).cells]⟩:=by
 refine Al 4 (λk s=>∃(J:List Row) (T:List (List Int)),Lows J∧T.length≤1+3*k∧(∀b∈T,isB b∧b.length≤2^30)∧s=⟨aY n how at_ by_ c T k,G2 l++(.cells (A6 l2).cells::J)⟩) ⟨[],T0,Lows.nil,hT0,hTB,rfl⟩ ?_;rintro k s hk4 ⟨J,T,hJ,hT,hB,rfl⟩;rw[iD];by_cases h1:k <4
 ·have h1':(k:Int) <4:=by omega
  have hw:=Bo k;have hd:=λQ=>pk l l2 n how at_ by_ c hn T k h1 J hJ Q;have he:=λes=>pj l l2 n how at_ by_ c hn hh ha hb T k J es;have hf:=λJ2 hJ2 es=>ph l l2 n how at_ by_ c hn hc T (by omega) k h1 J J2 hJ hJ2 es;simp only[Zw,AA 8 7,aY,oA,e8]at*;simp[h1',AB];refine hd _ λes f2 f3 f4 f5 f7 f17 f19 f20 f21 f22=>?_;refine he es f2 f3 f4 f5 f7 f17 f19 f20 f21 f22 _ λes2 J2 hJ2 g2 g3 g4 g5 g7 g17 g19 g20 g21 g22=>?_;refine hf J2 hJ2 es2 g2 g3 g4 g5 g7 g17 g19 g20 g21 g22 _ λJ3 T3 hJ3 hT3 hB3=>?_;simp[AA 8 8,hw,h1];refine⟨J3,hJ3,T++T3,?_,λb hb=>?_,by simp⟩
  ·rw[qG];omega
  ·rcases qW.1 hb with hb|hb
   ·exact hB b hb
   ·exact hB3 b hb
 ·obtain rfl:k=4:=by omega
  simp only[Zw,AA 8 7,aY,e8];simp[AJ];exact hQ _ _ T (by omega) hB rfl
end
theorem mT (l l2:List Int) (h20:PX 20 [] [.bool true]) (hl2:∀n∈l2,i64 n) (n how at_ by_:Int) (hn:i64 n) (hh:i64 how) (ha:i64 at_) (hb:i64 by_) (raw:List Int) (hr:isB raw) (c:Int) (hc:0≤c∧c <256):
  PX 8 [AH .i64 l,AH .i64 l2,.int .i64 n,.int .i64 how,.int .i64 at_,.int .i64 by_,AH .u8 raw,.int .u8 c] [.bool true]:=by
 refine BU 8 ?_;have q16:=oW.fsp;have q10:=(iR l).fsp;have q15:=jB l;have q21:=(pV l2 hl2).fsp;have q20:=h20.fsp;have hm:min raw.length 60≤raw.length:=Nat.min_le_left _ _;have hloop:=λQ=>pn l l2 n how at_ by_ c hn hh ha hb hc [raw.take (min raw.length 60)] (by simp) (by
  intro b hb;rw[qO.1 hb];exact⟨λx hx=>hr x (rK hx),by rw[qv];omega⟩) Q
 obtain⟨x0,x1,x2,hx⟩:=(A6 l2).agg3;have hcells:(A6 l2).cells=[.v x0,.v x1,.v x2]:=by
  obtain⟨t,ht⟩:∃t,A6 l2=t:=⟨_,rfl⟩;rw[ht]at hx ⊢;obtain⟨tc,tv,tp⟩:=t;rw[Th.V_eq]at hx;simp only[V.agg.injEq,List.cons.injEq,and_true]at hx;obtain⟨rfl,rfl,rfl⟩:=hx;rfl
 rw[hx]at q21;rw[hcells]at hloop;simp only[aY,e8,AH,qR,rW,rE]at hloop;have hGl:(G2 l).length=2:=by rw[SV];rfl
 generalize (A7 l).map Rgt.V=RV at*;generalize He=PV at*;generalize G2 l=H at*;simp only[AH,AV,qR,rW]at*;have ht1:(raw.map (V.int .u8)).length=raw.length:=by simp
 have w60:(if (60:Int) <(raw.length:Int) then 60 else (raw.length:Int))=((min raw.length 60:Nat):Int):=by split<;>omega
 have hRW:=Gq .u8 raw;generalize raw.map (V.int .u8)=RW at*;rw[At 8];simp only[Zw,AA 8 0];simp;simp only[AA 8 1];simp;refine⟨_,_,q16 _,?_⟩;simp;refine⟨_,_,q10 _,?_⟩;simp;refine⟨_,_,q15,?_⟩;simp only[AA 8 2];simp[AB];simp only[AA 8 4];simp;refine⟨_,_,q21 _,?_⟩;simp[AS,hGl];simp only[AA 8 5];simp[ht1,w60];have hM0:(0:Int)≤((min raw.length 60:Nat):Int):=Int.natCast_nonneg _;generalize min raw.length 60=M at*;simp[hm,hRW];simp only[AA 8 6];simp;simp at hloop;refine hloop _ ?_;intro e J T hT hB f20;simp;simp only[AA 8 32];simp[f20];refine pl T hB (by omega) J _ ?_;intro e J;simp;simp only[AA 8 39];simp;refine⟨_,_,q20 _,?_⟩;simp[AD,AX 8]
end
end Go.Va
