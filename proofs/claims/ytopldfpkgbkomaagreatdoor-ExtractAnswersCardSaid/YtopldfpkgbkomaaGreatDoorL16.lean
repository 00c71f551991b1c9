/- Laws that ExtractAnswers leans on, part 16. No condition of its own. -/
import Derived.Test.YtopldfpkgbkomaaGreatDoorL13
import Derived.Test.YtopldfpkgbkomaaGreatDoorL15
set_option linter.all false
set_option maxRecDepth 100000
set_option maxHeartbeats 4000000
noncomputable section
namespace Go.Va
open Go.Proofs
section
theorem XQ (h:List Row) (c4 c1 rr:Nat) (bs:List V) (n:Int) (rest:List Int) (h4:h[c4]?=some (.cells [.ref rr 0])) (h1:h[c1]?=some (.cells [.v (.list bs)])) (hr:h[rr]?=some (Cu (AZ n++rest))) (hn:i64 n) (h0:0≤n) (hl:n≤bs.length) (hne:c1≠rr):
  FX 204 [.ref c4 0,.ref c1 0] h [.v (.int .i64 n)] (h.set rr (Cu rest)):=by
 refine Dh 204 ?_;have q:=Ls n hn h rr rest hr;have h1':(h.set rr (Cu rest))[c1]?=some (.cells [.v (.list bs)]):=by rw[ot (Ne.symm hne)];exact h1
 have m1:¬n <0:=by omega
 have m2:¬(bs.length:Int) <n:=by omega
 simp only[Ai 204,AE,AF,AA 204 0,AQ];simp;rw[Bf];refine Bg _ (λs hs=>⟨s,.inl rfl,hs⟩) ?_;simp only[AA 204 1];simp[h4,h1]
 constructor
 ·refine⟨_,_,q,?_⟩;simp[h1',m1,m2,AB,AW 204]
 ·refine⟨_,_,q,?_⟩;simp[m1,m2,AB,AW 204]
def SJ:AT:=match la 113 with| .seq _ (.seq _ (.seq _ (.seq (.regA _ _ _ t) _)))=>t|_=> .done
def Tj:List (List Nat):=match la 113 with| .seq _ (.seq _ (.seq _ (.seq (.regA _ _ c _) _)))=>c|_=>[]
def Ww:AC:=match la 113 with| .seq _ (.seq _ (.seq _ (.seq _ t)))=>t|_=> .skip
theorem Vg:(gA 113)= .seq (.reg (oG 113 0) [1,2]) (.seq (.reg (oG 113 1) [1,2,4]) (.seq (.reg (oG 113 2) [1,2,4,5]) (.seq (.regA (oG 113 3) [1,2,4,5,6] Tj SJ) Ww))):=(Ai 113 :)
def T3:List GI:=lo 113 3
theorem YR:oG 113 3=T3:=(AA 113 3 :)
theorem Q2:SJ.chk T3 Tj (List.range 9)=true:=by kernel_rfl
def LE:List (Option Nat):=[some 14,some 15,some 16,some 17,some 18,some 19,some 20,some 6,none]
def Fe:List (Option Nat):=[none,none,none,none,none,none,none,none,none]
def IX:List Nat:=[1,2,4,5]
theorem F9:Ux LE IX=true:=by kernel_rfl
def Ob (r:Rgt):D:= .agg [.v (.int .i64 r.file),.v (.int .i64 r.state),.v (.int .i64 r.force),.nil 130 5,.nil 88 4,.nil 3 1,.nil 246 3,.nil 247 4]
def W4 (r:Rgt) (j:Nat):D:=
 match j with
 |0|2|4=> .ref 2 0
 |1=> .v (.int .i64 r.file)
 |3=> .v (.int .i64 r.state)
 |5=> .v (.int .i64 r.force)
 |6=>Ob r
 |7=> .ref 4 0
 |_=> .any
def DD (d:Nat→Bool):Nat:=if d 5 then 3 else (if d 3 then 2 else (if d 1 then 1 else 0))
def FA (r:Rgt) (rest:List Int):Nat→List Int
 |0=>AZ r.file++(AZ r.state++(AZ r.force++rest))
 |1=>AZ r.state++(AZ r.force++rest)
 |2=>AZ r.force++rest
 |_=>rest
def Dp (r:Rgt) (d:Nat→Bool):List Row:=
 if d 7 then (if d 8 then [.cells [.v (.int .i64 r.file),.v (.int .i64 r.state),.v (.int .i64 r.force),.own 130 5 [],.own 88 4 [],.own 3 1 [],.own 246 3 [],.own 247 4 []]]
  else [.cells [.v (.int .i64 0),.v (.int .i64 0),.v (.int .i64 0),.own 130 5 [],.own 88 4 [],.own 3 1 [],.own 246 3 [],.own 247 4 []]]) else []
def BC (C0 C1:Row) (r:Rgt) (rest:List Int) (d:Nat→Bool):List Row:=[C0,C1,Cu (FA r rest (DD d)),.cells [.ref 2 0]]++Dp r d
def Nd (j:Nat):D:=
 match j with
 |1=> .ref 0 0
 |2=> .ref 1 0
 |4=> .ref 3 0
 |5=> .func 204 [.ref 3 0,.ref 0 0]
 |_=> .any
variable {K:St→Prop}
theorem bq (C0 C1:Row) (r:Rgt) (hr:r.ok) (rest:List Int)
  (hK:∀e,(∀k'∈IX,AG e k'=Nd k')→AG e 6= .ref 4 0→K ⟨e,BC C0 C1 r rest (λ_=>true)⟩) (se:CB) (hse:∀k'∈IX,AG se k'=Nd k'):
  SJ.ok Tryz.prog Ah (oG 113 3) K ⟨se,BC C0 C1 r rest (λj=>decide (9≤j))⟩:=by
 rw[YR];refine JI (λd s=>EnvD LE Fe IX (W4 r) Nd d s.e∧s.h=BC C0 C1 r rest d) Q2 ?_ ?_ ?_
 ·rintro d i ⟨e,h⟩ hi hdi hdep hup ⟨hE,hh⟩;simp only at hE hh;subst hh;have b4:AG e 4= .ref 3 0:=hE.2 4 (by simp[IX])
  match i,hi with
  |0,_=>
   exact⟨_,BO (v:= .ref 2 0) rfl (by simp[PI.val,Opd.ev,b4,BC,D.part,D.copy]),hE.push F9 0 14 rfl rfl,by simp[BC,DD,Dp,Cc]⟩
  |2,_=>
   exact⟨_,BO (v:= .ref 2 0) rfl (by simp[PI.val,Opd.ev,b4,BC,D.part,D.copy]),hE.push F9 2 16 rfl rfl,by simp[BC,DD,Dp,Cc]⟩
  |4,_=>
   exact⟨_,BO (v:= .ref 2 0) rfl (by simp[PI.val,Opd.ev,b4,BC,D.part,D.copy]),hE.push F9 4 18 rfl rfl,by simp[BC,DD,Dp,Cc]⟩
  |1,_=>
   have v0:AG e 14= .ref 2 0:=hE.1 0 14 rfl (hdep 0 (by decide)) (by intro c hc;simp[Fe]at hc);have d3:d 3=false:=hup 3 (by decide) (by decide);have d5:d 5=false:=hup 5 (by decide) (by decide);have hF:=Ls r.file hr.file (BC C0 C1 r rest d) 2 (AZ r.state++(AZ r.force++rest)) (by simp[BC,FA,DD,hdi,d3,d5]);exact⟨_,CZ (k:=15) (r:= .v (.int .i64 r.file)) rfl (by simpa[Av,D.arg,Opd.ev,v0]using hF),hE.push F9 1 15 rfl rfl,by simp[FA,BC,DD,Dp,Cc,hdi,d3,d5]⟩
  |3,_=>
   have v2:AG e 16= .ref 2 0:=hE.1 2 16 rfl (hdep 2 (by decide)) (by intro c hc;simp[Fe]at hc);have d5:d 5=false:=hup 5 (by decide) (by decide);have d1:d 1=true:=hdep 1 (by decide);have hF:=Ls r.state hr.state (BC C0 C1 r rest d) 2 (AZ r.force++rest) (by simp[BC,FA,DD,hdi,d5,d1]);exact⟨_,CZ (k:=17) (r:= .v (.int .i64 r.state)) rfl (by simpa[Av,D.arg,Opd.ev,v2]using hF),hE.push F9 3 17 rfl rfl,by simp[FA,BC,DD,Dp,Cc,hdi,d5,d1]⟩
  |5,_=>
   have v4:AG e 18= .ref 2 0:=hE.1 4 18 rfl (hdep 4 (by decide)) (by intro c hc;simp[Fe]at hc);have d1:d 1=true:=hdep 1 (by decide);have d3:d 3=true:=hdep 3 (by decide);have hF:=Ls r.force hr.force (BC C0 C1 r rest d) 2 (rest) (by simp[BC,FA,DD,hdi,d3]);exact⟨_,CZ (k:=19) (r:= .v (.int .i64 r.force)) rfl (by simpa[Av,D.arg,Opd.ev,v4]using hF),hE.push F9 5 19 rfl rfl,by simp[FA,BC,DD,Dp,Cc,hdi,d3]⟩
  |6,_=>
   have v1:AG e 15= .v (.int .i64 r.file):=hE.1 1 15 rfl (hdep 1 (by decide)) (by intro c hc;simp[Fe]at hc);have v3:AG e 17= .v (.int .i64 r.state):=hE.1 3 17 rfl (hdep 3 (by decide)) (by intro c hc;simp[Fe]at hc);have v5:AG e 19= .v (.int .i64 r.force):=hE.1 5 19 rfl (hdep 5 (by decide)) (by intro c hc;simp[Fe]at hc);exact⟨_,BO (v:=Ob r) rfl (by simp[PI.val,FE,Opd.ev,v1,v3,v5,D.cells?,D.copy,AO,Ob]),hE.push F9 6 20 rfl rfl,by simp[BC,DD,Dp,Cc]⟩
  |7,_=>
   have d8:d 8=false:=hup 8 (by decide) (by decide);refine⟨_,CX (s1:=⟨(6,.ref 4 0)::e,BC C0 C1 r rest (Cc d 7)⟩) rfl ?_,hE.push F9 7 6 rfl rfl,rfl⟩;simp[AI.step,BC,DD,Dp,Cc,hdi,d8]
  |8,_=>
   have v6:AG e 20=Ob r:=hE.1 6 20 rfl (hdep 6 (by decide)) (by intro c hc;simp[Fe]at hc);have v7:AG e 6= .ref 4 0:=hE.1 7 6 rfl (hdep 7 (by decide)) (by intro c hc;simp[Fe]at hc);have d7:d 7=true:=hdep 7 (by decide);refine⟨_,CX (s1:=⟨e,BC C0 C1 r rest (Cc d 8)⟩) rfl ?_,hE.step F9 8 (λk hk=>by simp[LE]at hk) (λk _ _=>rfl),rfl⟩;simp[AI.step,Opd.ev,v6,v7,BC,DD,Dp,Cc,hdi,d7,Ob,D.copy,D.cells?,AO,D.toRow]
  |i+9,hi=>omega
 ·rintro d ⟨e,h⟩ hall ⟨hE,hh⟩;simp only at hE hh;subst hh;have e1:BC C0 C1 r rest d=BC C0 C1 r rest (λ_=>true):=by
   simp[BC,DD,Dp,hall 5 (by decide),hall 7 (by decide),hall 8 (by decide)]
  rw[e1];exact hK e hE.2 (hE.1 7 6 rfl (hall 7 (by decide)) (by intro c hc;simp[Fe]at hc))
 ·refine⟨⟨λj k' hj hd=>?_,hse⟩,rfl⟩;simp only[decide_eq_true_eq]at hd;have:LE[j]?=none:=pN (by simpa[LE]using hd);rw[this]at hj;cases hj
end
theorem cP (C0 C1:Row) (f st fo cl y1 y2 y3:D) (rest:List Int) (l:List Dat) (hl:∀x∈l,x.ok) (hn:l.length≤2^30):
  awp Tryz.prog Ah (.loop (lG 113 0)) (λe s=>e= .exit 0∧s=⟨[(1,.ref 0 0),(2,.ref 1 0),(4,.ref 3 0),(5,.func 204 [.ref 3 0,.ref 0 0]),(6,.ref 4 0),(33,.v (.int .i64 l.length)),(34,.v (.int .i64 l.length)),(35,.v (.bool false))],[C0,C1,Cu rest,.cells [.ref 2 0],.cells [f,st,fo,cl,.own 88 4 (l.map Dat.V),y1,y2,y3]]⟩)
   ⟨[(1,.ref 0 0),(2,.ref 1 0),(4,.ref 3 0),(5,.func 204 [.ref 3 0,.ref 0 0]),(6,.ref 4 0),(33,.v (.int .i64 l.length)),(34,.v (.int .i64 0))],[C0,C1,Cu (l.flatMap BW++rest),.cells [.ref 2 0],.cells [f,st,fo,cl,.own 88 4 [],y1,y2,y3]]⟩:=by
 refine AN l.length (λk=>⟨[(1,.ref 0 0),(2,.ref 1 0),(4,.ref 3 0),(5,.func 204 [.ref 3 0,.ref 0 0]),(6,.ref 4 0),(33,.v (.int .i64 l.length)),(34,.v (.int .i64 k))],[C0,C1,Cu ((l.drop k).flatMap BW++rest),.cells [.ref 2 0],.cells [f,st,fo,cl,.own 88 4 ((l.take k).map Dat.V),y1,y2,y3]]⟩) (by simp) ?_;intro k hk;rw[Ro];simp only[Zw,AA 113 9];by_cases h1:k <l.length
 ·have hd:l.drop k=l[k]::l.drop (k+1):=qR h1;have hx:=hl _ (pR h1);have hw:=Bb k;have htk:(l.map Dat.V).take (k+1)=(l.map Dat.V).take k++[Dat.V l[k]]:=by
   rw[←o8,←o8,pX h1,oh];rfl
  obtain⟨x,hxx⟩:∃x,x=l[k]:=⟨_,rfl⟩;rw[←hxx]at hd hx htk;simp[h1,AD];rw[Bf];refine Bg _ (λs hs=>⟨s,.inl rfl,hs⟩) ?_;have hX:(l.drop k).flatMap BW++rest=Cx x ((l.drop (k+1)).flatMap BW++rest) 0:=by rw[hd];simp[Cx,BW]
  rw[hX];refine bw C0 C1 f st fo cl y1 y2 y3 x hx ((l.drop (k+1)).flatMap BW++rest) ((l.map Dat.V).take k) (by simp;omega) l.length k (λe he=>?_) _ (by
   intro k' hk';simp only[Fg,oO,o7,or_false]at hk';rcases hk' with rfl|rfl|rfl|rfl|rfl|rfl|rfl<;>rfl)
  have q:∀k'∈Fg,AG e k'=Mj l.length k k':=he;simp only[Fg,sO,o7,false_implies,implies_true,and_true]at q;obtain⟨q0,q1,q2,q3,q4,q5,q6⟩:=q;simp only[q0,q1,q2,q3,q4,q5,q6,Bd,AA 113 11];simp[Mj,hw,At,CG,Cx,CM,htk]
 ·have:k=l.length:=by omega
  subst this;simp[AJ]
theorem cO (C0 C1:Row) (f st fo cl y1 y2 y3:D) (rest:List Int) (l:List Own) (hl:∀x∈l,x.ok) (hn:l.length≤2^30):
  awp Tryz.prog Ah (.loop (lG 113 1)) (λe s=>e= .exit 2∧s=⟨[(1,.ref 0 0),(2,.ref 1 0),(4,.ref 3 0),(5,.func 204 [.ref 3 0,.ref 0 0]),(6,.ref 4 0),(56,.v (.int .i64 l.length)),(57,.v (.int .i64 l.length)),(58,.v (.bool false))],[C0,C1,Cu rest,.cells [.ref 2 0],.cells [f,st,fo,cl,y1,y2,.own 246 3 (l.map Own.V),y3]]⟩)
   ⟨[(1,.ref 0 0),(2,.ref 1 0),(4,.ref 3 0),(5,.func 204 [.ref 3 0,.ref 0 0]),(6,.ref 4 0),(56,.v (.int .i64 l.length)),(57,.v (.int .i64 0))],[C0,C1,Cu (l.flatMap BU++rest),.cells [.ref 2 0],.cells [f,st,fo,cl,y1,y2,.own 246 3 [],y3]]⟩:=by
 refine AN l.length (λk=>⟨[(1,.ref 0 0),(2,.ref 1 0),(4,.ref 3 0),(5,.func 204 [.ref 3 0,.ref 0 0]),(6,.ref 4 0),(56,.v (.int .i64 l.length)),(57,.v (.int .i64 k))],[C0,C1,Cu ((l.drop k).flatMap BU++rest),.cells [.ref 2 0],.cells [f,st,fo,cl,y1,y2,.own 246 3 ((l.take k).map Own.V),y3]]⟩) (by simp) ?_;intro k hk;rw[Rn];simp only[Zw,AA 113 14];by_cases h1:k <l.length
 ·have hd:l.drop k=l[k]::l.drop (k+1):=qR h1;have hx:=hl _ (pR h1);have hw:=Bb k;have htk:(l.map Own.V).take (k+1)=(l.map Own.V).take k++[Own.V l[k]]:=by
   rw[←o8,←o8,pX h1,oh];rfl
  obtain⟨x,hxx⟩:∃x,x=l[k]:=⟨_,rfl⟩;rw[←hxx]at hd hx htk;simp[h1,AD];rw[Bf];refine Bg _ (λs hs=>⟨s,.inl rfl,hs⟩) ?_;have hX:(l.drop k).flatMap BU++rest=DW x ((l.drop (k+1)).flatMap BU++rest) 0:=by rw[hd];simp[DW,BU]
  rw[hX];refine bu C0 C1 f st fo cl y1 y2 y3 x hx ((l.drop (k+1)).flatMap BU++rest) ((l.map Own.V).take k) (by simp;omega) l.length k (λe he=>?_) _ (by
   intro k' hk';simp only[GT,oO,o7,or_false]at hk';rcases hk' with rfl|rfl|rfl|rfl|rfl|rfl|rfl<;>rfl)
  have q:∀k'∈GT,AG e k'=Ld l.length k k':=he;simp only[GT,sO,o7,false_implies,implies_true,and_true]at q;obtain⟨q0,q1,q2,q3,q4,q5,q6⟩:=q;simp only[q0,q1,q2,q3,q4,q5,q6,Bd,AA 113 16];simp[Ld,hw,Ax,CF,DW,CE,htk]
 ·have:k=l.length:=by omega
  subst this;simp[AJ]
theorem cN (C0 C1:Row) (f st fo cl y1 y2 y3:D) (rest:List Int) (l:List Lic) (hl:∀x∈l,x.ok) (hn:l.length≤2^30):
  awp Tryz.prog Ah (.loop (lG 113 2)) (λe s=>e= .exit 4∧s=⟨[(1,.ref 0 0),(2,.ref 1 0),(4,.ref 3 0),(6,.ref 4 0),(74,.v (.int .i64 l.length)),(75,.v (.int .i64 l.length)),(76,.v (.bool false))],[C0,C1,Cu rest,.cells [.ref 2 0],.cells [f,st,fo,cl,y1,y2,y3,.own 247 4 (l.map Lic.V)]]⟩)
   ⟨[(1,.ref 0 0),(2,.ref 1 0),(4,.ref 3 0),(6,.ref 4 0),(74,.v (.int .i64 l.length)),(75,.v (.int .i64 0))],[C0,C1,Cu (l.flatMap BV++rest),.cells [.ref 2 0],.cells [f,st,fo,cl,y1,y2,y3,.own 247 4 []]]⟩:=by
 refine AN l.length (λk=>⟨[(1,.ref 0 0),(2,.ref 1 0),(4,.ref 3 0),(6,.ref 4 0),(74,.v (.int .i64 l.length)),(75,.v (.int .i64 k))],[C0,C1,Cu ((l.drop k).flatMap BV++rest),.cells [.ref 2 0],.cells [f,st,fo,cl,y1,y2,y3,.own 247 4 ((l.take k).map Lic.V)]]⟩) (by simp) ?_;intro k hk;rw[Rm];simp only[Zw,AA 113 18];by_cases h1:k <l.length
 ·have hd:l.drop k=l[k]::l.drop (k+1):=qR h1;have hx:=hl _ (pR h1);have hw:=Bb k;have htk:(l.map Lic.V).take (k+1)=(l.map Lic.V).take k++[Lic.V l[k]]:=by
   rw[←o8,←o8,pX h1,oh];rfl
  obtain⟨x,hxx⟩:∃x,x=l[k]:=⟨_,rfl⟩;rw[←hxx]at hd hx htk;simp[h1,AD];rw[Bf];refine Bg _ (λs hs=>⟨s,.inl rfl,hs⟩) ?_;have hX:(l.drop k).flatMap BV++rest=Cw x ((l.drop (k+1)).flatMap BV++rest) 0:=by rw[hd];simp[Cw,BV]
  rw[hX];refine bt C0 C1 f st fo cl y1 y2 y3 x hx ((l.drop (k+1)).flatMap BV++rest) ((l.map Lic.V).take k) (by simp;omega) l.length k (λe he=>?_) _ (by
   intro k' hk';simp only[GS,oO,o7,or_false]at hk';rcases hk' with rfl|rfl|rfl|rfl|rfl|rfl<;>rfl)
  have q:∀k'∈GS,AG e k'=Lc l.length k k':=he;simp only[GS,sO,o7,false_implies,implies_true,and_true]at q;obtain⟨q0,q1,q2,q3,q4,q5⟩:=q;simp only[q0,q1,q2,q3,q4,q5,Bd,AA 113 20];simp[Lc,hw,Ap,Bp,Cw,Bs,htk]
 ·have:k=l.length:=by omega
  subst this;simp[AJ]
theorem T4:Ww=(.seq (.reg (oG 113 4) [1,2,4,5,6,7,8]) (.seq (.seq (.reg (oG 113 5) [1,2,4,5,6,7,28]) (.cond (.t 28 false) (.seq (.reg (oG 113 6) [2,3]) .ret) .skip)) (.seq (.reg (oG 113 7) [1,2,4,5,6]) (.seq (.seq (.reg (oG 113 8) [1,2,4,5,6,33,34]) (.block 0 (.loop (lG 113 0)))) (.seq (.reg (oG 113 12) [1,2,4,5,6]) (.seq (.seq (.reg (oG 113 13) [1,2,4,5,6,56,57]) (.block 2 (.loop (lG 113 1)))) (.seq (.seq (.reg (oG 113 17) [1,2,4,6,74,75]) (.block 4 (.loop (lG 113 2)))) (.seq (.seq (.reg (oG 113 21) [1,2,6,94]) (.cond (.t 94 false) (.seq (.reg (oG 113 22) [2,3]) .ret) .skip)) (.seq (.seq (.reg (oG 113 23) [1,2,6,9,10]) (.seq (.reg (oG 113 24) [2,6,109]) (.cond (.t 109 false) (.seq (.reg (oG 113 25) [2,3]) .ret) .skip))) (.seq (.reg (oG 113 26) [2,3]) .ret)))))))))):=rfl
theorem Px (x:Dat):1≤(BW x).length:=by
 have:=HX 9 (Hs x.cl);simp only[BW,oL,AZ,E4];omega
theorem Pv (x:Own):1≤(BU x).length:=by
 have:=HX 9 (Hs x.party);simp only[BU,oL,AZ,E4];omega
theorem Pw (x:Lic):1≤(BV x).length:=by
 have:=HX 9 (Hs x.fr);simp only[BV,oL,AZ,E4];omega
theorem I8 {α:Type} {f:α→List Int} (hf:∀x,1≤(f x).length):∀l:List α,l.length≤(l.flatMap f).length
 |[]=>by simp
 |x::l=>by
  have:=hf x;have:=I8 hf l;simp only[oZ,oL,oj];omega
theorem jh (r:Rgt) (hr:r.ok) (hf:Aw r=true) (hz:CD r.claims=0) (hc32:r.claims.length≤32) (hb:(Be r).length≤2^39) (hB:∀x∈Be r,0≤x∧x <256):PX 113 [AH .u8 (Be r)] [r.V,.int .i64 0]:=by
 refine BJ 113 ?_;have q51:=(l0 r hr).fsp;rw[hf,if_pos rfl,if_pos rfl]at q51;have q205:=(ib r.claims hr.claims hz hc32 hr.enc).fsp;simp at q51 q205;have hdl:=I8 Px r.dates;have hol:=I8 Pv r.owners;have hll:=I8 Pw r.lics;have hbl:=Eu r.bad;have hb':=hb;simp only[Be,BE,A6,oL]at hb';have hE:Be r=AZ r.file++(AZ r.state++(AZ r.force++(BE (BB r.claims)++(AZ r.dates.length++(r.dates.flatMap BW++(A6 r.bad++(AZ r.owners.length++(r.owners.flatMap BU++(AZ r.lics.length++r.lics.flatMap BV))))))))):=by simp[Be]
 obtain⟨E,hEE⟩:∃E,E=Be r:=⟨_,rfl⟩;rw[←hEE]at hE hb hB ⊢;obtain⟨R5,h5⟩:∃R,R=AZ r.lics.length++r.lics.flatMap BV:=⟨_,rfl⟩;obtain⟨R4,h4⟩:∃R,R=AZ r.owners.length++(r.owners.flatMap BU++R5):=⟨_,rfl⟩;obtain⟨R3,h3⟩:∃R,R=A6 r.bad++R4:=⟨_,rfl⟩;obtain⟨R2,h2⟩:∃R,R=AZ r.dates.length++(r.dates.flatMap BW++R3):=⟨_,rfl⟩;obtain⟨R1,h1⟩:∃R,R=BE (BB r.claims)++R2:=⟨_,rfl⟩;have hE':E=AZ r.file++(AZ r.state++(AZ r.force++R1)):=by rw[hE,h1,h2,h3,h4,h5]
 simp only[Vg,AE,AF,AA 113 0,AA 113 1,AA 113 2,AX];simp;refine⟨_,_,(eo E (by omega) _),?_⟩;simp[AO];rw[Bf];refine Bg _ (λs hs=>⟨s,.inl rfl,hs⟩) ?_;obtain⟨C0,hC0⟩:∃C,C=Row.cells [.v (AH .u8 E)]:=⟨_,rfl⟩;obtain⟨C1,hC1⟩:∃C,C=Row.cells [.v (.int .i64 0),.v (.int .i64 0),.v (.int .i64 0),.own 130 5 [],.own 88 4 [],.own 3 1 [],.own 246 3 [],.own 247 4 []]:=⟨_,rfl⟩;rw[←hC0,←hC1];have hrow:([C0,C1,Cu E,.cells [.ref 2 0]]:List Row)=BC C0 C1 r R1 (λj=>decide (9≤j)):=by rw[hE'];rfl
 rw[hrow];refine bq C0 C1 r hr R1 (λe he h6=>?_) _ (by
  intro k' hk';simp only[IX,oO,o7,or_false]at hk';rcases hk' with rfl|rfl|rfl|rfl<;>rfl)
 simp only[IX,sO,o7,false_implies,implies_true,and_true,Nd]at he;obtain⟨e1,e2,e4,e5⟩:=he;simp only[Bd,e1,e2,e4,e5,h6];have hrow2:BC C0 C1 r R1 (λ_=>true)=[C0,C1,Cu R1,.cells [.ref 2 0],.cells [.v (.int .i64 r.file),.v (.int .i64 r.state),.v (.int .i64 r.force),.own 130 5 [],.own 88 4 [],.own 3 1 [],.own 246 3 [],.own 247 4 []]]:=rfl;rw[hrow2,T4];simp only[Zw,AA 113 4];simp;refine⟨_,_,(aN (BB r.claims) _ 2 R2 (by rw[h2,h3,h4,h5];simp only[A6,oL];omega) (by rw[h1];rfl)),?_⟩;simp;refine⟨_,_,q205 _,?_⟩;simp;simp only[AA 113 5];simp[AD];simp only[AA 113 7];simp[AO,D.toRow];simp only[AA 113 8];simp;have hElen:E.length=(AZ r.file).length+((AZ r.state).length+((AZ r.force).length+R1.length)):=by rw[hE'];simp
 have l1:R1.length=(BE (BB r.claims)).length+R2.length:=by rw[h1];simp
 have l2:R2.length=(AZ r.dates.length).length+((r.dates.flatMap BW).length+R3.length):=by rw[h2];simp[-List.length_flatMap]
 have l3:R3.length=(A6 r.bad).length+R4.length:=by rw[h3];simp
 have l4:R4.length=(AZ r.owners.length).length+((r.owners.flatMap BU).length+R5.length):=by rw[h4];simp[-List.length_flatMap]
 have l5:R5.length=(AZ r.lics.length).length+(r.lics.flatMap BV).length:=by rw[h5];simp[-List.length_flatMap]
 have hld:=hr.ld;have hlo:=hr.lo;have hll2:=hr.ll;have m1:=XQ [C0,C1,Cu R2,.cells [.ref 2 0],.cells [.v (.int .i64 r.file),.v (.int .i64 r.state),.v (.int .i64 r.force),.v (.list (r.claims.map Clm.V)),.own 88 4 [],.own 3 1 [],.own 246 3 [],.own 247 4 []]] 3 0 2 (E.map (.int .u8)) r.dates.length (r.dates.flatMap BW++R3) rfl (by rw[hC0];rfl) (by rw[h2];rfl) (by unfold i64;omega) (by omega) (by rw[oi];omega) (by decide);refine⟨_,_,m1,?_⟩;have hD:=cP C0 C1 (.v (.int .i64 r.file)) (.v (.int .i64 r.state)) (.v (.int .i64 r.force)) (.v (.list (r.claims.map Clm.V))) (.own 3 1 []) (.own 246 3 []) (.own 247 4 []) R3 r.dates hr.dates hld;refine EO hD ?_;simp only[AA 113 12];simp;refine⟨_,_,(Xa r.bad hr.bad _ 2 R4 (by omega) (by rw[h3];rfl)),?_⟩;simp;simp only[AA 113 13];simp;have m2:=XQ [C0,C1,Cu R4,.cells [.ref 2 0],.cells [.v (.int .i64 r.file),.v (.int .i64 r.state),.v (.int .i64 r.force),.v (.list (r.claims.map Clm.V)),.own 88 4 (r.dates.map Dat.V),.own 3 1 (r.bad.map (.int .i64)),.own 246 3 [],.own 247 4 []]] 3 0 2 (E.map (.int .u8)) r.owners.length (r.owners.flatMap BU++R5) rfl (by rw[hC0];rfl) (by rw[h4];rfl) (by unfold i64;omega) (by omega) (by rw[oi];omega) (by decide);refine⟨_,_,m2,?_⟩;have hO:=cO C0 C1 (.v (.int .i64 r.file)) (.v (.int .i64 r.state)) (.v (.int .i64 r.force)) (.v (.list (r.claims.map Clm.V))) (.own 88 4 (r.dates.map Dat.V)) (.own 3 1 (r.bad.map (.int .i64))) (.own 247 4 []) R5 r.owners hr.owners hlo;refine EO hO ?_;simp only[AA 113 17];simp;have m3:=XQ [C0,C1,Cu R5,.cells [.ref 2 0],.cells [.v (.int .i64 r.file),.v (.int .i64 r.state),.v (.int .i64 r.force),.v (.list (r.claims.map Clm.V)),.own 88 4 (r.dates.map Dat.V),.own 3 1 (r.bad.map (.int .i64)),.own 246 3 (r.owners.map Own.V),.own 247 4 []]] 3 0 2 (E.map (.int .u8)) r.lics.length (r.lics.flatMap BV++[]) rfl (by rw[hC0];rfl) (by rw[h5];simp) (by unfold i64;omega) (by omega) (by rw[oi];omega) (by decide);refine⟨_,_,m3,?_⟩;have hL:=cN C0 C1 (.v (.int .i64 r.file)) (.v (.int .i64 r.state)) (.v (.int .i64 r.force)) (.v (.list (r.claims.map Clm.V))) (.own 88 4 (r.dates.map Dat.V)) (.own 3 1 (r.bad.map (.int .i64))) (.own 246 3 (r.owners.map Own.V)) [] r.lics hr.lics hll2;refine EO hL ?_;simp only[AA 113 21];simp;have hend:=XZ [C0,C1,Cu [],.cells [.ref 2 0],.cells [.v (.int .i64 r.file),.v (.int .i64 r.state),.v (.int .i64 r.force),.v (.list (r.claims.map Clm.V)),.own 88 4 (r.dates.map Dat.V),.own 3 1 (r.bad.map (.int .i64)),.own 246 3 (r.owners.map Own.V),.own 247 4 (r.lics.map Lic.V)]] 2 rfl;refine⟨_,_,hend,?_⟩;simp;simp only[AA 113 23];simp[D.vs?,D.v?];have hV:r.V= .agg [.int .i64 r.file,.int .i64 r.state,.int .i64 r.force,.list (r.claims.map Clm.V),.list (r.dates.map Dat.V),.list (r.bad.map (.int .i64)),.list (r.owners.map Own.V),.list (r.lics.map Lic.V)]:=rfl;rw[hV]at q51 ⊢;refine⟨_,_,q51 _,?_⟩;simp;simp only[AA 113 24];have hbB:=GR E hB;simp[hC0,←hEE,AH,hbB];simp only[AA 113 26];simp[hC1,AO,D.toRow,D.vs?,D.v?,AB,AW 113,CR]
end Go.Va
