/- Laws that ExtractAnswers leans on, part 28. No condition of its own. -/
import Derived.Test.YtopldfpkgbkomaaGreatDoorL23
import Derived.Test.YtopldfpkgbkomaaGreatDoorL25
set_option linter.all false
set_option maxRecDepth 100000
set_option maxHeartbeats 4000000
noncomputable section
namespace Go.Va
open Go.Proofs
def CY (pa:Int) (rs:List Rgt):List Int:=(rs.filter λr=>r.owners.any λo=>o.party==pa).map Rgt.file
theorem S1 (n:Nat) (kind pa day:Int) (t:Th) (rs:List Rgt) (cl:List (Int×Int)) (fs:List Int):Row.low n (.cells ((LT kind pa day t rs cl fs).map .v))=true:=by
 simp only[Row.low];exact J7 _
theorem js (h:List Row) (hl:Low h) (pa day:Int) (t:Th) (rs:List Rgt) (hn:rs.length≤2^20) (ho:∀r∈rs,r.owners.length <2^40) (cl:List (Int×Int)) (fs:List Int) (Q:AExit→St→Prop)
  (hQ:∀e J,AG e 7= .own 3 1 ((CY pa rs).map (.int .i64))→Q (.exit 1) ⟨e,h++ .cells ((LT 2 pa day t rs cl fs).map .v)::J⟩):
  awp Tryz.prog Ah (.loop (lG 90 0)) Q ⟨[(3,.ref h.length 0),(7,.own 3 1 []),(22,.v (.list (rs.map Rgt.V))),(23,.v (.int .i64 rs.length)),(24,.v (.int .i64 (0:Nat)))],h++[.cells ((LT 2 pa day t rs cl fs).map .v)]⟩:=by
 refine AY rs.length (λk s=>∃J,Lows J∧s=⟨[(3,.ref h.length 0),(7,.own 3 1 ((CY pa (rs.take k)).map (.int .i64))),(22,.v (.list (rs.map Rgt.V))),(23,.v (.int .i64 rs.length)),(24,.v (.int .i64 k))],h++ .cells ((LT 2 pa day t rs cl fs).map .v)::J⟩)
  ⟨[],Lows.nil,by simp[CY]⟩ ?_
 rintro k s hk ⟨J,hJ,rfl⟩;simp only[Zw,A8 90 0,AA 90 5];simp;by_cases hkl:k <rs.length
 ·obtain⟨r,hr⟩:∃r,rs[k]?=some r:=⟨_,oI hkl⟩;have w1:=Bb k;have htk2:rs.take (k+1)=rs.take k++[r]:=by rw[oW,hr];rfl
  have hfl:CY pa (rs.take (k+1))=CY pa (rs.take k)++if (r.owners.any λo=>o.party==pa) then [r.file] else []:=by
   rw[htk2];unfold CY;rw[pw,oh];cases h2:r.owners.any (λo=>o.party==pa)<;>simp[h2]
  have hlr:∀n,Row.low n (.cells (r.cs.map .v))=true:=λn=>by simp only[Row.low];exact J7 _
  have hlen:(CY pa (rs.take k)).length≤k:=by
   unfold CY;have:=pG (λr=>r.owners.any λo=>o.party==pa) (rs.take k);rw[ol]at this;rw[oi];omega
  have hLow:Low (h++(.cells ((LT 2 pa day t rs cl fs).map .v)::(J++[.cells (r.cs.map .v)]))):=hl.lows (by
   intro row hrow n;rcases oO.1 hrow with rfl|hrow
   ·exact S1 n _ _ _ _ _ _ _
   ·exact hJ.app hlr row hrow n)
  have hidx:IdxR Tryz.prog Ah 184 [.ref h.length 0] (r.owners.map Own.V) (h++(.cells ((LT 2 pa day t rs cl fs).map .v)::(J++[.cells (r.cs.map .v)]))) (r.owners.findIdx? λo=>o.party==pa) (h++(.cells ((LT 2 pa day t rs cl fs).map .v)::(J++[.cells (r.cs.map .v)]))):=
   IdxR.map λo _=>iv o pa _ h.length ((LT 2 pa day t rs cl fs).map .v) (by simp) rfl hLow
  have hcf:=Z7 (.func 184 [.ref h.length 0]) 184 _ (FV.r 184 h.length 0 []) (r.owners.map Own.V) (by have:=ho r (oK hr);simpa using this) (by
   intro x hx;obtain⟨y,_,rfl⟩:=oP.1 hx;exact⟨_,rfl,rfl⟩) hidx
  rw[Cl]at hcf;rw[hfl];generalize CY pa (rs.take k)=L at*;generalize r.owners.any (λo=>o.party==pa)=B at*;have hroom:AU (L.length+1) 8=true:=by simp[AU];omega
  clear hidx;obtain⟨file,state,force,claims,dates,bad,owners,lics⟩:=r;simp only[LT,Rgt.cs,AH]at*;simp at hcf;rw[if_pos (by omega),AD];simp only[AA 90 6];simp[hr,Rgt.V,Rgt.cs,AH,AO];simp only[AA 90 7];simp;refine⟨_,_,hcf,?_⟩;simp;have hJ2:=hJ.app hlr;cases B with
  |false=>
   simp[AD,AA 90 9,w1,hkl];exact hJ2
  |true=>
   simp[AA 90 8,hroom,AA 90 9,w1,hkl];exact hJ2
 ·have hk2:k=rs.length:=by omega
  subst hk2;rw[if_neg (by omega),AJ,od];exact hQ _ _ rfl
theorem eM (h:List Row) (hl:Low h) (x:Nat) (pa day:Int) (t:Th) (rs:List Rgt) (hn:rs.length≤2^20) (ho:∀r∈rs,r.owners.length <2^40) (cl:List (Int×Int)) (fs:List Int):
  FX 90 [.ref x 0,.v (.agg (LT 2 pa day t rs cl fs))] h [.own 76 2 [],.own 3 1 ((CY pa rs).map (.int .i64)),.v (.int .i64 0)] h:=by
 refine Ak (D4 90) rfl (oN _) hl (by simp[D.lt]) ?_;have hloop:=js h hl pa day t rs hn ho cl fs;simp only[LT,AH]at*;simp at hloop;simp only[Zw,Ai 90,AA 90 0,AA 90 1,AQ];simp;simp[AA 90 2,AA 90 3,AA 90 4];refine hloop _ ?_;intro e J he;simp[AA 90 10,he,AB,AW 90]
def AC.L:AC→AC
 | .seq a _=>a
 | .block _ c=>c
 |_=> .skip
def AC.R:AC→AC
 | .seq _ b=>b
 |_=> .skip
theorem Og {α β:Type} {f:α→List β} {s:Nat} (hf:∀x,(f x).length=s):∀(l:List α) (i:Nat) (x:α),l[i]?=some x→((l.flatMap f).drop (i*s)).take s=f x
 |[],i,x,h=>by simp at h
 |y::l,0,x,h=>by
  simp only[rX,oH]at h;subst h;have:=hf y;simp[oZ,this]
 |y::l,i+1,x,h=>by
  have hy:=hf y;simp only[qO]at h;rw[oZ,qK,Nat.add_comm,←List.drop_drop];have:(f y++l.flatMap f).drop s=l.flatMap f:=by rw[←hy];simp
  rw[this];exact Og hf l i x h
theorem MX {α β:Type} {f:α→List β} {s:Nat} (hf:∀x,(f x).length=s):∀(l:List α) (i:Nat) (y:α),i <l.length→(l.flatMap f).take (i*s)++(f y++(l.flatMap f).drop (i*s+s))=(l.set i y).flatMap f
 |[],i,y,h=>by simp at h
 |z::l,0,y,h=>by
  have:=hf z;simp[oZ,←this]
 |z::l,i+1,y,h=>by
  have hz:=hf z;have ih:=MX hf l i y (by simpa using h);rw[List.set_cons_succ,oZ,oZ,←ih,qK];have e1:(f z++l.flatMap f).take (i*s+s)=f z++(l.flatMap f).take (i*s):=by
   rw[List.take_append,hz,o6 (by omega)]
   congr 2;omega
  have e2:(f z++l.flatMap f).drop (i*s+s+s)=(l.flatMap f).drop (i*s+s):=by
   rw[List.drop_append,hz,List.drop_of_length_le (by omega),qz]
   congr 1;omega
  rw[e1,e2,oR]
theorem MY {α β:Type} {f:α→List β} {s:Nat} (hf:∀x,(f x).length=s) (l:List α):(l.flatMap f).length=l.length*s:=by
 induction l with
 |nil=>simp
 |cons x l ih=>simp only[oZ,oL,ih,hf,oj,qK];omega
inductive Th.wee:Th→Prop
 |mk {cs vs ps} (h1:cs.length≤1000) (h2:vs.length≤1000) (h3:ps.length≤1000) (h4:∀x∈vs,Val.ok x) (h5:∀p∈ps,Th.wee p):Th.wee (.mk cs vs ps)
theorem Th.wee.fit {t:Th} (h:t.wee):t.ok∧t.small:=by
 induction h with
 |mk h1 h2 h3 h4 _ ih=>exact⟨.mk (by omega) (by omega) (by omega) h4 λp hp=>(ih p hp).1,.mk (by omega) (by omega) (by omega) λp hp=>(ih p hp).2⟩
theorem JP:∀(a b:List Th),Th.sizes (a++b)=Th.sizes a+Th.sizes b
 |[],b=>by simp[Th.sizes]
 |x::a,b=>by simp[Th.sizes,JP a b,Nat.add_assoc]
theorem MJ:∀(a:List Th) (k:Nat) (p q:Th),a[k]?=some p→Th.sizes (a.set k q)≤Th.sizes a+q.size-p.size∧p.size≤Th.sizes a
 |x::a,0,p,q,h=>by
  simp at h;subst h;simp[Th.sizes];omega
 |x::a,k+1,p,q,h=>by
  have:=MJ a k p q (by simpa using h);simp[Th.sizes];omega
theorem Q6 (n:Nat):Th.sizes (List.replicate n (.mk [] [] []))=n:=by
 induction n with
 |zero=>rfl
 |succ n ih=>rw[r7,Th.sizes,ih];simp[Th.size,Th.sizes];omega
def T26 (t:Th) (a h b:Int):Prop:=∃t2:Th,t2.ok∧t2.small∧t2.size≤t.size+200∧PX 26 [t.V,.int .i64 a,.int .i64 h,.int .i64 b] [t2.V]
theorem T26.of {cs:List Int} {vs:List Val} {ps:List Th} (hw:(Th.mk cs vs ps).wee) {a h b:Int} {cs2:List Int} {vs2:List Val} {ps2:List Th} (h1:cs2.length≤2100) (h2:vs2.length≤2100) (h3:ps2.length≤2100) (h4:∀x∈vs2,Val.ok x) (h5:∀p∈ps2,p.ok∧p.small)
  (hs:Th.sizes ps2≤Th.sizes ps+200) (hp:PX 26 [(Th.mk cs vs ps).V,.int .i64 a,.int .i64 h,.int .i64 b] [(Th.mk cs2 vs2 ps2).V]):T26 (.mk cs vs ps) a h b:=
 ⟨_,.mk (by omega) (by omega) (by omega) h4 λp hp=>(h5 p hp).1,.mk (by omega) (by omega) (by omega) λp hp=>(h5 p hp).2,by simp only[Th.size];omega,hp⟩
def Tu:AC:=la 26
def Gj:AC:=Tu.R.R.R.R.R
def Gi:AC:=Gj.R
def IW:AC:=Gi.L.R.L
theorem Yk:(gA 26)= .seq (.reg (oG 26 0) [1,2,3,4,8]) (.seq (.reg (oG 26 1) [1,2,3,4,8,9]) (.seq (.reg (oG 26 2) [1,2,3,4,8,9]) (.seq (.reg (oG 26 3) [1,2,3,4,8,9]) (.seq (.reg (oG 26 4) [1,2,3,4,8,9]) Gj)))):=(Ai 26 :)
def Hw:Nat→Th
 |0=> .mk [] [] []
 |k+1=> .mk [] [] [Hw k]
theorem OH:∀k,((Hw k).ok∧(Hw k).small)∧(Hw k).size=k+1
 |0=>⟨⟨.mk (by simp) (by simp) (by simp) (by simp) (by simp),.mk (by simp) (by simp) (by simp) (by simp)⟩,rfl⟩
 |k+1=>by
  obtain⟨⟨a,b⟩,c⟩:=OH k;exact⟨⟨.mk (by simp) (by simp) (by simp) (by simp) (by simpa using a),.mk (by simp) (by simp) (by simp) (by simpa using b)⟩,by simp[Hw,Th.size,Th.sizes,c];omega⟩
theorem Xj (k:Nat):(Hw k).V= .agg [.list [],.list [],.list (match k with|0=>[]|j+1=>[(Hw j).V])]:=by
 cases k<;>simp[Hw,Th.V_eq,AH]
def fT (t:Th):List V:=[AH .i64 t.cs,.list (t.vs.map Val.V),.list (t.ps.map Th.V)]
theorem IR (t:Th):(fT t).length=3:=rfl
theorem Qp (l:List Th):(l.map Th.V).flatMap V.cells=l.flatMap fT:=by
 induction l with
 |nil=>rfl
 |cons x l ih=>
  obtain⟨c,v,p⟩:=x;rw[oV,oZ,oZ,ih,Th.V_eq];rfl
theorem OX (l:List Int):(l.map (V.int .i64)).flatMap V.cells=l.map (V.int .i64):=by
 induction l with
 |nil=>rfl
 |cons x l ih=>rw[oV,oZ,ih];rfl
section
variable {cs:List Int} {vs:List Val} {ps:List Th} (h1:cs.length≤1000) (h2:vs.length≤1000) (h3:ps.length≤1000) (a h b:Int)
def z26:Row:= .cells [.own 3 1 [],.own 171 3 [],.own 58 3 []]
def Ry (a h b:Int):CB:=[(1,.v (.int .i64 a)),(2,.v (.int .i64 h)),(3,.v (.int .i64 b)),(4,.ref 0 0),(8,.ref 1 0),(9,.ref 2 0)]
theorem TM (l:List Val):BM 3 (l.map Val.V)=true:=by cases l<;>rfl
theorem cA (l:List Th):BM 3 (l.map Th.V)=true:=by
 cases l with
 |nil=>rfl
 |cons x l=>obtain⟨c,v,p⟩:=x;simp[BM,Th.V_eq,V.cells]
theorem WU (l:List Int):BM 1 (l.map (.int .i64))=true:=by cases l<;>rfl
include h1 h2 h3
theorem Sj (bc bp:Bool) (hb:bc=true→bp=false) (hc:bc=true→cs≠[]) (hp:bp=true→ps≠[]) (Q:AExit→St→Prop)
  (hQ:∀k,awp Tryz.prog Ah Gj Q ⟨Ry a h b,[.cells (Th.mk cs vs ps).cells,z26,.cells [if bc then .sref 3 cs.length else .own 3 1 (cs.map (.int .i64)),.own 171 3 (vs.map Val.V),if bp then .sref 3 ps.length else .own 58 3 (ps.map Th.V)]]++
   (if bc then [.cells (((cs.map (V.int .i64)).flatMap V.cells).map .v++List.replicate k .any)] else [])++(if bp then [.cells (((ps.map Th.V).flatMap V.cells).map .v++List.replicate k .any)] else [])⟩):
  awp Tryz.prog Ah (gA 26) Q ⟨AQ [.v (Th.mk cs vs ps).V,.v (.int .i64 a),.v (.int .i64 h),.v (.int .i64 b)],[]⟩:=by
 have r1:AU cs.length 8=true:=by simp[AU];omega
 have r2:AU vs.length 24=true:=by simp[AU];omega
 have r3:AU ps.length 72=true:=by simp[AU];omega
 have g1:=WU cs;have g2:=TM vs;have g3:=cA ps;simp only[Th.V_eq,Th.cells,Th.cs,Th.vs,Th.ps,z26,Ry,AH]at*;rw[Yk];simp only[AE,AF,AA 26 0,AQ];simp;simp only[AA 26 1];simp[AO];simp only[AA 26 2];cases bc with
 |false=>
  simp[r1,g1,AO]
  left
  simp only[AA 26 3];simp[r2,g2];simp only[AA 26 4];cases bp with
  |false=>
   simp[r3,g3,AO]
   left
   simpa using hQ 0
  |true=>
   have hn:ps≠[]:=hp rfl;simp[r3,g3,AO,hn]
   right
   intro k;simpa using hQ k
 |true=>
  have hn:cs≠[]:=hc rfl;have hbp:=hb rfl;subst hbp;simp[r1,g1,AO,hn]
  right
  intro k;simp only[AA 26 3];simp[r2,g2];simp only[AA 26 4];simp[r3,g3,AO]
  left
  simpa using hQ k
def Co (cs:List Int) (vs:List Val) (ps:List Th) (c0:D) (X:List Row):List Row:= .cells (Th.mk cs vs ps).cells::z26:: .cells [c0,.own 171 3 (vs.map Val.V),.own 58 3 (ps.map Th.V)]::X
omit h1 h2 in
theorem lj (hn:ps=[]∨¬0 <An a 3) (c0:D) (X:List Row) (Q:AExit→St→Prop)
  (hQ:∀e,AG e 2= .v (.int .i64 h)→AG e 3= .v (.int .i64 b)→AG e 4= .ref 0 0→AG e 8= .ref 1 0→AG e 9= .ref 2 0→awp Tryz.prog Ah Gi Q ⟨e,Co cs vs ps c0 X⟩):
  awp Tryz.prog Ah Gj Q ⟨Ry a h b,Co cs vs ps c0 X⟩:=by
 have q1:=(Pb a 3 (by decide)).fsp;simp at q1;rw[show Gj= .seq (.seq (.reg (oG 26 5) _) (.cond (.t 42 false) _ .skip)) Gi from rfl];generalize Gi=C at*;simp only[AE,AF,AK,AA 26 5,Ry,Co]at hQ ⊢;by_cases hps:ps=[]
 ·subst hps;simp[AD]
  try simp at hQ
  exact hQ _ rfl rfl rfl rfl rfl
 ·have hpos:=hn.resolve_left hps;have hlen:0 <ps.length:=List.length_pos_iff.2 hps;simp[hlen];refine⟨_,_,q1 _,?_⟩;simp[hpos,AD]
  try simp at hQ
  exact hQ _ rfl rfl rfl rfl rfl
theorem mQ (hn:ps=[]∨¬0 <An a 3) {cs2:List Int} {vs2:List Val} {ps2:List Th}
  (hw:awp Tryz.prog Ah IW (λe s=>(e= .normal∨e= .exit 0)∧AG s.e 8= .ref 1 0∧AG s.e 9= .ref 2 0∧∃R J,s.h=R::z26:: .cells [.own 3 1 (cs2.map (.int .i64)),.own 171 3 (vs2.map Val.V),.own 58 3 (ps2.map Th.V)]::J)
   ⟨[(3,.v (.int .i64 b)),(4,.ref 0 0),(8,.ref 1 0),(9,.ref 2 0),(65,.v (.int .i64 (An h 9)))],Co cs vs ps (.own 3 1 (cs.map (.int .i64))) []⟩):
  PX 26 [(Th.mk cs vs ps).V,.int .i64 a,.int .i64 h,.int .i64 b] [(Th.mk cs2 vs2 ps2).V]:=by
 refine BJ 26 ?_;refine Sj h1 h2 h3 a h b false false (λh=>by cases h) (λh=>by cases h) (λh=>by cases h) _ ?_;intro _;have q2:=(Pb h 9 (by decide)).fsp;simp at q2;refine lj h3 a h b hn _ [] _ ?_;intro e f2 f3 f4 f8 f9;rw[show Gi= .seq (.seq (.reg (oG 26 9) _) (.block 0 IW)) (.seq (.reg (oG 26 39) _) .ret) from rfl];simp only[AE,AF,AM,AA 26 9];simp[f2];refine⟨_,_,q2 _,?_⟩;simp[f3,f4,f8,f9];refine Ad _ ?_ hw;rintro e ⟨se,sh⟩ ⟨he,g8,g9,R,J,hh⟩;simp only at g8 g9 hh;subst hh;rcases he with rfl|rfl<;>simp[AA 26 39,z26,g8,g9,AO,AB,AW 26,D.vs?,D.v?,Th.V_eq,AH]
omit h1 h2 h3 in
theorem VQ {a:Int} (l:List Int) (h0:0≤a) (h:a <l.length):∃x∈l,(l.map (V.int .i64))[a.toNat]?=some (.int .i64 x):=by
 have hx:l[a.toNat]?=some (l[a.toNat]'(by omega)):=oI _;exact⟨_,oK hx,by rw[oX,hx];rfl⟩
end
def Lq (cs:List Int) (k m:Nat):List D:=((cs.reverse.take k++cs.drop k).map λx=>D.v (.int .i64 x))++List.replicate m .any
theorem SY (cs:List Int) (k m:Nat) (hk:k≤cs.length):(Lq cs k m).length=cs.length+m:=by
 simp[Lq];omega
theorem Sf (X R:List D) (p q:D) (k:Nat) (h:k=X.length):AO (X++p::R) k [q]=X++q::R:=by
 subst h;simp[AO,List.drop_append]
theorem SX (cs:List Int) (k m:Nat) (x:Int) (hk:k <cs.length) (hx:cs.reverse[k]?=some x):AO (Lq cs k m) k [D.v (.int .i64 x)]=Lq cs (k+1) m:=by
 have e1:cs.drop k=cs[k]::cs.drop (k+1):=qR hk;have hl:(cs.reverse.take k).length=k:=by simp;omega
 obtain⟨A,hA⟩:∃A,cs.reverse.take k=A:=⟨_,rfl⟩;unfold Lq;rw[oW,hx,e1,hA];rw[hA]at hl;generalize cs.drop (k+1)=B;generalize cs[k]=y;clear hA e1 hx;subst hl;have e:((A++y::B).map λx=>D.v (.int .i64 x))++List.replicate m D.any=(A.map λx=>D.v (.int .i64 x))++(D.v (.int .i64 y)::((B.map λx=>D.v (.int .i64 x))++List.replicate m D.any)):=by simp
 rw[e,Sf _ _ _ _ _ (by simp)];simp
theorem SZ (cs:List Int) (m:Nat):D.vs? ((Lq cs cs.length m).take (cs.length*1))=some ((cs.reverse.map (V.int .i64)).flatMap V.cells):=by
 have e0:cs.reverse.take cs.length=cs.reverse:=o6 (by simp);unfold Lq;rw[e0,List.drop_length,pz,OX,Nat.mul_one,List.take_left' (by simp)];have:=KX (cs.reverse.map (V.int .i64))
 rwa [qF]at this
section
variable {cs:List Int} {vs:List Val} {ps:List Th} (h1:cs.length≤1000) (h2:vs.length≤1000) (h3:ps.length≤1000) (a h b:Int)
include h1 h2 h3
theorem XM (hcs:cs≠[]) (Q:AExit→St→Prop) (hQ:∀k,awp Tryz.prog Ah Gj Q ⟨Ry a h b,Co cs vs ps (.sref 3 cs.length) [.cells (((cs.map (V.int .i64)).flatMap V.cells).map .v++List.replicate k .any)]⟩):
  awp Tryz.prog Ah (gA 26) Q ⟨AQ [.v (Th.mk cs vs ps).V,.v (.int .i64 a),.v (.int .i64 h),.v (.int .i64 b)],[]⟩:=
 Sj h1 h2 h3 a h b true false (λ_=>rfl) (λ_=>hcs) (λh=>by cases h) Q hQ
def dg (ys:List V):AExit→St→Prop:=λe s=>(match e with| .exit _=>False|_=>True)∧∃(ds cs:List D) (i r m sz:Nat) (xs:List V),DG s (gR 26)=some [.agg ds]∧ds[i]?=some (.sref r m)∧s.h[r]?=some (.cells cs)∧xs.length=m∧(∀x∈xs,x.cells.length=sz)∧
   D.vs? (cs.take (m*sz))=some (xs.flatMap V.cells)∧ds.set i (.v (.list xs))=ys.map .v
theorem dl (hcs:cs≠[]) (hn:ps=[]∨¬0 <An a 3) (h7:An h 9=7):awp Tryz.prog Ah (gA 26) (dg [AH .i64 cs.reverse,.list (vs.map Val.V),.list (ps.map Th.V)])
  ⟨AQ [.v (Th.mk cs vs ps).V,.v (.int .i64 a),.v (.int .i64 h),.v (.int .i64 b)],[]⟩:=by
 obtain⟨P,hP⟩:∃P,dg [AH .i64 cs.reverse,.list (vs.map Val.V),.list (ps.map Th.V)]=P:=⟨_,rfl⟩;rw[hP];refine XM h1 h2 h3 a h b hcs _ ?_;intro kc;have q2:=(Pb h 9 (by decide)).fsp;rw[h7]at q2;simp at q2;have key:=lj (cs:=cs) (vs:=vs) (ps:=ps) h3 a h b hn (.sref 3 cs.length) [.cells (((cs.map (V.int .i64)).flatMap V.cells).map .v++List.replicate kc .any)] P
 with_reducible refine key ?_
 clear key;intro e f2 f3 f4 f8 f9;rw[OX,show Gi= .seq (.seq (.reg (oG 26 9) _) (.block 0 IW)) (.seq (.reg (oG 26 39) _) .ret) from rfl];simp only[AE,AF,AM,AA 26 9];simp[f2];refine⟨_,_,q2 _,?_⟩;simp[f3,f4,f8,f9];simp only[IW,Gi,Gj,Tu,la,AC.L,AC.R,AE,AF,AK,AA 26 12,AA 26 14,AA 26 16,AA 26 18,AA 26 20,AA 26 22,AA 26 27,AA 26 34];simp;simp only[AM,AA 26 35];simp;have e00:(cs.map (V.int .i64)).map D.v++List.replicate kc D.any=Lq cs 0 kc:=by simp[Lq,rj]
 refine AN cs.length (λk=>⟨[(4,.ref 0 0),(8,.ref 1 0),(9,.ref 2 0),(14,.v (.int .i64 k))],Co cs vs ps (.sref 3 cs.length) [.cells (Lq cs k kc)]⟩) (by rw[←e00];simp[Co]) ?_;intro k hk;simp only[Zw,A8 26 2,AA 26 36,Co,z26];simp;by_cases h5:k <cs.length
 ·obtain⟨x,hx⟩:∃x,cs[cs.length-1-k]?=some x:=⟨_,oI (by omega)⟩;have hxr:cs.reverse[k]?=some x:=by rw[List.getElem?_reverse h5];exact hx
  have w1:=Bb k;have w2:IntKind.i64.wrap ((cs.length:Int)-1)=cs.length-1:=AL;have w3:IntKind.i64.wrap ((cs.length:Int)-1-k)=cs.length-1-k:=AL;have hn1:((cs.length:Int)-1-k).toNat=cs.length-1-k:=by omega
  have hb0:(0:Int)≤(cs.length:Int)-1-k:=by omega
  have hb1:(cs.length:Int)-1-k <cs.length:=by omega
  have hle:(k:Int)≤cs.length-1:=by omega
  have hput:=SX cs k kc x h5 hxr;have hlen:=SY cs k kc hk;have hlen2:k+1≤cs.length+kc:=by omega
  rw[if_pos h5,AD];simp only[AS,AA 26 38];simp[Th.cells,Th.cs,Th.vs,Th.ps,AH,w2,w3,hn1,hle,hx,hlen,hlen2,hput,h5];simp[AA 26 37,w1]
 ·obtain rfl:k=cs.length:=by omega
  rw[if_neg (by omega),AJ];simp[AA 26 39,AO,AB];rw[←hP];refine⟨trivial,[.sref 3 cs.length,.v (.list (vs.map Val.V)),.v (.list (ps.map Th.V))],_,0,3,cs.length,1,cs.reverse.map (V.int .i64),?_,rfl,rfl,by simp,?_,SZ cs kc,?_⟩
  ·simp[AW 26,D.one?]
  ·intro x hx;obtain⟨y,_,rfl⟩:=oP.1 hx;rfl
  ·simp[AH]
theorem v26 (hcs:cs≠[]) (hn:ps=[]∨¬0 <An a 3) (h7:An h 9=7):PX 26 [(Th.mk cs vs ps).V,.int .i64 a,.int .i64 h,.int .i64 b] [(Th.mk cs.reverse vs ps).V]:=by
 rw[Th.V_eq cs.reverse vs ps];have f:FX 26 [.v (Th.mk cs vs ps).V,.v (.int .i64 a),.v (.int .i64 h),.v (.int .i64 b)] [] [.v (.agg [AH .i64 cs.reverse,.list (vs.map Val.V),.list (ps.map Th.V)])] []:=Qn (D4 26) rfl (dl h1 h2 h3 a h b hcs hn h7);exact E6 (args:=[_,_,_,_]) (rets:=[_]) f
end
def MR (k:Nat):D:=match k with|0=> .own 58 3 []|j+1=> .v (.list [(Hw j).V])
theorem U2:MR 0= .own 58 3 []:=rfl
theorem U0 (k:Nat):MR (k+1)= .v (.list [(Hw k).V]):=rfl
def QX (k:Nat):List V:=match k with|0=>[]|j+1=>[(Hw j).V]
theorem U1 (k:Nat):(MR k).copy= .v (.list (QX k)):=by cases k<;>rfl
theorem Xi (k:Nat):(Hw k).V= .agg [.list [],.list [],.list (QX k)]:=Xj k
section
variable {cs:List Int} {vs:List Val} {ps:List Th} (h1:cs.length≤1000) (h2:vs.length≤1000) (h3:ps.length≤1000) (a h b:Int)
theorem mS (r1:AU (cs.length+cs.length) 8=true) (r2:AU (vs.length+vs.length) 24=true):
  awp Tryz.prog Ah IW (λe s=>(e= .normal∨e= .exit 0)∧AG s.e 8= .ref 1 0∧AG s.e 9= .ref 2 0∧∃R J,s.h=R::z26:: .cells [.own 3 1 ((cs++cs).map (.int .i64)),.own 171 3 ((vs++vs).map Val.V),.own 58 3 (ps.map Th.V)]::J)
   ⟨[(3,.v (.int .i64 b)),(4,.ref 0 0),(8,.ref 1 0),(9,.ref 2 0),(65,.v (.int .i64 8))],Co cs vs ps (.own 3 1 (cs.map (.int .i64))) []⟩:=by
 have g1:=WU cs;have g2:=TM vs;have l1:(cs.map (V.int .i64)).length=cs.length:=by simp
 have l2:(vs.map Val.V).length=vs.length:=by simp
 rw[oh,oh];simp only[Co,Th.cells,Th.cs,Th.vs,Th.ps,AH];generalize cs.map (V.int .i64)=X at*;generalize vs.map Val.V=Y at*;generalize ps.map Th.V=Z at*;rw[←l1]at r1;rw[←l2]at r2;clear l1 l2;simp only[IW,Gi,Gj,Tu,la,AC.L,AC.R,AE,AF,AK,AA 26 12,AA 26 14,AA 26 16,AA 26 18,AA 26 20,AA 26 22,AA 26 27,AA 26 34];simp;simp only[AA 26 10];simp[z26,r2,g2];simp only[AA 26 11];simp[r1,g1]
include h3
theorem nW (m:Nat) (hm:An b 4=m) (q4:∀h,FX 11 [.v (.int .i64 b),.v (.int .i64 4)] h [.v (.int .i64 (An b 4))] h) (hmb:m <4):
  awp Tryz.prog Ah IW (λe s=>(e= .normal∨e= .exit 0)∧AG s.e 8= .ref 1 0∧AG s.e 9= .ref 2 0∧∃R J,s.h=R::z26:: .cells [.own 3 1 (cs.map (.int .i64)),.own 171 3 (vs.map Val.V),.own 58 3 ((ps++[Hw (5+m)]).map Th.V)]::J)
   ⟨[(3,.v (.int .i64 b)),(4,.ref 0 0),(8,.ref 1 0),(9,.ref 2 0),(65,.v (.int .i64 6))],Co cs vs ps (.own 3 1 (cs.map (.int .i64))) []⟩:=by
 simp only[IW,Gi,Gj,Tu,la,AC.L,AC.R,AE,AF,AK,AA 26 12,AA 26 14,AA 26 16,AA 26 18,AA 26 20,AA 26 22,AA 26 27];simp;simp only[AM,AA 26 28];simp[Co,z26,AO,AA 26 29];refine AN (5+m) (λk=>⟨[(3,.v (.int .i64 b)),(8,.ref 1 0),(9,.ref 2 0),(12,.ref 3 0),(13,.v (.int .i64 k))],[.cells (Th.mk cs vs ps).cells,z26,.cells [.own 3 1 (cs.map (.int .i64)),.own 171 3 (vs.map Val.V),.own 58 3 (ps.map Th.V)],
  .cells [.own 3 1 [],.own 171 3 [],MR k]]⟩) (by simp[z26,U2]) ?_
 intro k hk;have w0:IntKind.i64.wrap (5+(m:Int))=5+m:=AL;have w1:=Bb k;have hv:=Xi k;have hs:=U0 k;have hc:=U1 k;have hroom:AU (ps.length+1) 72=true:=by simp[AU];omega
 simp only[Zw,A8 26 1,AA 26 30];simp;refine⟨_,_,q4 _,?_⟩;simp[hm,w0];by_cases h1:k <5+m
 ·have h1':(k:Int) <5+m:=by omega
  rw[hs,hv];generalize Hw k=N at*;generalize MR k=M at*;generalize QX k=X at*;cases M<;>simp only[D.copy,D.v.injEq,V.list.injEq,reduceCtorEq]at hc
  all_goals try subst hc
  all_goals simp[h1',AD,AA 26 32,AO]
  all_goals simp[AA 26 31,w1,h1]
 ·obtain rfl:k=5+m:=by omega
  rw[hv];generalize Hw (5+m)=N at*;generalize MR (5+m)=M at*;generalize QX (5+m)=X at*;cases M<;>simp only[D.copy,D.v.injEq,V.list.injEq,reduceCtorEq]at hc
  all_goals try subst hc
  all_goals simp[AJ,AA 26 33,z26,AO,hroom]
include h1 h2
theorem t26 (hw:(Th.mk cs vs ps).wee) (hn:ps=[]∨¬0 <An a 3) (hh:i64 h) (hb:i64 b):T26 (.mk cs vs ps) a h b:=by
 have hv1:=EP h 9 hh;have hv2:=(EQ h 9 (by decide)).2;have w:=fun {cs2 vs2 ps2}=>mQ h1 h2 h3 a h b hn (cs2:=cs2) (vs2:=vs2) (ps2:=ps2);obtain⟨v,hv⟩:∃v,An h 9=v:=⟨_,rfl⟩;rw[hv]at w hv1 hv2;have q5:=Pb b 5 (by decide);have q4:=Pb b 4 (by decide);have b5:=EP b 5 hb;have c5:=(EQ b 5 (by decide)).2;have b4:=EP b 4 hb;have c4:=(EQ b 4 (by decide)).2;have hwv:∀x∈vs,x.ok:=by cases hw;assumption
 have hwp:∀p∈ps,p.ok∧p.small:=by cases hw with|mk _ _ _ _ h5=>exact λp hp=>(h5 p hp).fit
 have rc:AU (cs.length+1) 8=true:=by simp[AU];omega
 have rv:AU (vs.length+1) 24=true:=by simp[AU];omega
 have b9:=EP b 9 hb;have c9:=(EQ b 9 (by decide)).2;have q9:=(Pb b 9 (by decide)).fsp;have vok:∀v:Val,v.ok→∀x∈vs++[v],x.ok:=λv hv x hx=>by
  rcases oc.1 hx with hx|hx
  ·exact hwv x hx
  ·rw[oS.1 hx];exact hv
 simp at q5 q4 q9;have hcase:v=0∨v=1∨v=2∨v=3∨v=4∨v=5∨v=6∨v=7∨v=8:=by omega
 rcases hcase with rfl|rfl|rfl|rfl|rfl|rfl|rfl|rfl|rfl
 ·obtain⟨x,hx,hg⟩:=VQ [b,-1,0,63,64] b5 (by simpa using c5);refine T26.of hw (cs2:=cs++[x]) (vs2:=vs) (ps2:=ps) (by simp;omega) (by omega) (by omega) hwv hwp (by omega) (w ?_);simp only[IW,Gi,Gj,Tu,la,AC.L,AC.R,AE,AF,AK,AA 26 12];simp;simp only[AS,AA 26 13];simp[Co,Th.cells,z26,AO];refine⟨_,_,⟨rfl,rfl⟩,_,q5,?_⟩;generalize hL:[V.int .i64 b,V.int .i64 (-1),V.int .i64 0,V.int .i64 63,V.int .i64 64]=L;have hg2:L[(An b 5).toNat]?=some (.int .i64 x):=by rw[←hL];exact hg
  have hl2:An b 5 <(L.length:Int):=by rw[←hL];exact c5
  obtain⟨_,hg3⟩:=oM.1 hg2;clear hL hg;simp[hg3,hl2,b5,rc]
 ·obtain⟨x,hx,hg⟩:=VQ [b,-1,0,31,32] b5 (by simpa using c5);have hxi:i64 x:=by simp at hx;rcases hx with rfl|rfl|rfl|rfl|rfl<;>(unfold i64 at *;omega)
  refine T26.of hw (cs2:=cs) (vs2:=vs++[⟨x,1,1⟩]) (ps2:=ps) (by omega) (by simp;omega) (by omega) (vok _ ⟨hxi,by simp[i64],by simp[i64]⟩) hwp (by omega) (w ?_);simp only[IW,Gi,Gj,Tu,la,AC.L,AC.R,AE,AF,AK,AA 26 12,AA 26 14];simp;simp only[AS,AA 26 15];simp[Co,Th.cells,z26,AO];refine⟨_,_,⟨rfl,rfl⟩,_,q5,?_⟩;generalize hL:[V.int .i64 b,V.int .i64 (-1),V.int .i64 0,V.int .i64 31,V.int .i64 32]=L;have hg2:L[(An b 5).toNat]?=some (.int .i64 x):=by rw[←hL];exact hg
  have hl2:An b 5 <(L.length:Int):=by rw[←hL];exact c5
  obtain⟨_,hg3⟩:=oM.1 hg2;clear hL hg;simp[hg3,hl2,b5,rv,Val.V]
 ·obtain⟨x,hx,hg⟩:=VQ [b,1099511627776,-1099511627776,1099511627777] b4 (by simpa using c4);have hxi:i64 x:=by simp at hx;rcases hx with rfl|rfl|rfl|rfl<;>(unfold i64 at *;omega)
  refine T26.of hw (cs2:=cs) (vs2:=vs++[⟨31,x,1⟩]) (ps2:=ps) (by omega) (by simp;omega) (by omega) (vok _ ⟨by simp[i64],hxi,by simp[i64]⟩) hwp (by omega) (w ?_);simp only[IW,Gi,Gj,Tu,la,AC.L,AC.R,AE,AF,AK,AA 26 12,AA 26 14,AA 26 16];simp;simp only[AS,AA 26 17];simp[Co,Th.cells,z26,AO];refine⟨_,_,⟨rfl,rfl⟩,_,q4,?_⟩;generalize hL:[V.int .i64 b,V.int .i64 1099511627776,V.int .i64 (-1099511627776),V.int .i64 1099511627777]=L;have hg2:L[(An b 4).toNat]?=some (.int .i64 x):=by rw[←hL];exact hg
  have hl2:An b 4 <(L.length:Int):=by rw[←hL];exact c4
  obtain⟨_,hg3⟩:=oM.1 hg2;clear hL hg;simp[hg3,hl2,b4,rv,Val.V]
 ·obtain⟨x,hx,hg⟩:=VQ [b,0,-1,65536,65537] b5 (by simpa using c5);have hxi:i64 x:=by simp at hx;rcases hx with rfl|rfl|rfl|rfl|rfl<;>(unfold i64 at *;omega)
  refine T26.of hw (cs2:=cs) (vs2:=vs++[⟨31,1,x⟩]) (ps2:=ps) (by omega) (by simp;omega) (by omega) (vok _ ⟨by simp[i64],by simp[i64],hxi⟩) hwp (by omega) (w ?_);simp only[IW,Gi,Gj,Tu,la,AC.L,AC.R,AE,AF,AK,AA 26 12,AA 26 14,AA 26 16,AA 26 18];simp;simp only[AS,AA 26 19];simp[Co,Th.cells,z26,AO];refine⟨_,_,⟨rfl,rfl⟩,_,q5,?_⟩;generalize hL:[V.int .i64 b,V.int .i64 0,V.int .i64 (-1),V.int .i64 65536,V.int .i64 65537]=L;have hg2:L[(An b 5).toNat]?=some (.int .i64 x):=by rw[←hL];exact hg
  have hl2:An b 5 <(L.length:Int):=by rw[←hL];exact c5
  obtain⟨_,hg3⟩:=oM.1 hg2;clear hL hg;simp[hg3,hl2,b5,rv,Val.V]
 ·refine T26.of hw (cs2:=cs) (vs2:=vs++[⟨31,IntKind.i64.wrap (2*b),6⟩]) (ps2:=ps) (by omega) (by simp;omega) (by omega) (vok _ ⟨by simp[i64],Em _,by simp[i64]⟩) hwp (by omega) (w ?_);simp only[IW,Gi,Gj,Tu,la,AC.L,AC.R,AE,AF,AK,AA 26 12,AA 26 14,AA 26 16,AA 26 18,AA 26 20];simp;simp[AA 26 21,Co,Th.cells,z26,AO,rv,Val.V]
 ·obtain⟨m,hm⟩:∃m:Nat,An b 9=m:=⟨(An b 9).toNat,by omega⟩;refine T26.of hw (cs2:=cs) (vs2:=vs) (ps2:=ps++List.replicate (90+m) (.mk [] [] [])) (by omega) (by omega) (by simp;omega) hwv (λp hp=>?_) (by rw[JP,Q6];omega) (w ?_)
  ·rcases oc.1 hp with hp|hp
   ·exact hwp p hp
   ·rw[List.eq_of_mem_replicate hp];exact⟨.mk (by simp) (by simp) (by simp) (by simp) (by simp),.mk (by simp) (by simp) (by simp) (by simp)⟩
  ·simp only[IW,Gi,Gj,Tu,la,AC.L,AC.R,AE,AF,AK,AA 26 12,AA 26 14,AA 26 16,AA 26 18,AA 26 20,AA 26 22];simp;simp only[AM,AA 26 23];simp;refine AN (90+m) (λk=>⟨[(3,.v (.int .i64 b)),(8,.ref 1 0),(9,.ref 2 0),(11,.v (.int .i64 k))],[.cells (Th.mk cs vs ps).cells,z26,.cells [.own 3 1 (cs.map (.int .i64)),.own 171 3 (vs.map Val.V),.own 58 3 ((ps++List.replicate k (Th.mk [] [] [])).map Th.V)]]⟩) (by simp[Co]) ?_;intro k hk;have w0:IntKind.i64.wrap (90+(m:Int))=90+m:=AL;have w1:=Bb k;have hroom:AU (ps.length+k+1) 72=true:=by simp[AU];omega
   simp only[Zw,A8 26 0,AA 26 24];simp;refine⟨_,_,q9 _,?_⟩;simp[hm,w0];by_cases h1:k <90+m
   ·have h1':(k:Int) <90+m:=by omega
    simp[h1',AD,AA 26 26,z26,AO,hroom];simp[AA 26 25,w1,h1,List.replicate_succ',Th.V_eq,AH]
   ·obtain rfl:k=90+m:=by omega
    simp[AJ,z26]
 ·obtain⟨m,hm⟩:∃m:Nat,An b 4=m:=⟨(An b 4).toNat,by omega⟩;obtain⟨⟨n1,n2⟩,n3⟩:=OH (5+m);have q4':=q4.fsp;simp at q4';refine T26.of hw (cs2:=cs) (vs2:=vs) (ps2:=ps++[Hw (5+m)]) (by omega) (by omega) (by simp;omega) hwv (λp hp=>?_) (by rw[JP];simp[Th.sizes,n3];omega) (w ?_)
  ·rcases oc.1 hp with hp|hp
   ·exact hwp p hp
   ·rw[oS.1 hp];exact⟨n1,n2⟩
  ·exact nW h3 b m hm q4' (by omega)
 ·by_cases hcs:cs=[]
  ·refine T26.of hw (cs2:=cs) (vs2:=vs) (ps2:=ps) (by omega) (by omega) (by omega) hwv hwp (by omega) (w ?_);subst hcs;simp only[IW,Gi,Gj,Tu,la,AC.L,AC.R,AE,AF,AK,AA 26 12,AA 26 14,AA 26 16,AA 26 18,AA 26 20,AA 26 22,AA 26 27,AA 26 34];simp;simp only[AM,AA 26 35];simp;refine As ?_;simp[A8 26 2,AE,AF,AK,AA 26 36,Co,z26,AJ]
  ·exact T26.of hw (by simp;omega) (by omega) (by omega) hwv hwp (by omega) (v26 h1 h2 h3 a h b hcs hn hv)
 ·refine T26.of hw (cs2:=cs++cs) (vs2:=vs++vs) (ps2:=ps) (by simp;omega) (by simp;omega) (by omega) (λx hx=>hwv x (by simpa using hx)) hwp (by omega) (w ?_);have r1:AU (cs.length+cs.length) 8=true:=by simp[AU];omega
  have r2:AU (vs.length+vs.length) 24=true:=by simp[AU];omega
  exact mS b r1 r2
end
theorem Sg (A y:List V) (Z:List D) (o:Nat) (h:o+y.length≤A.length):AO (A.map D.v++Z) o (y.map D.v)=(A.take o++(y++A.drop (o+y.length))).map D.v++Z:=by
 unfold AO;rw[qp (by simp;omega),List.drop_append_of_le_length (by simp;omega)];simp[o8,qQ]
section
variable {cs:List Int} {vs:List Val} {ps:List Th} (h1:cs.length≤1000) (h2:vs.length≤1000) (h3:ps.length≤1000) (a h b:Int)
include h1 h2 h3
theorem XL (hps:ps≠[]) (Q:AExit→St→Prop) (hQ:∀k,awp Tryz.prog Ah Gj Q ⟨Ry a h b,[.cells (Th.mk cs vs ps).cells,z26,.cells [.own 3 1 (cs.map (.int .i64)),.own 171 3 (vs.map Val.V),.sref 3 ps.length],.cells ((ps.flatMap fT).map .v++List.replicate k .any)]⟩):
  awp Tryz.prog Ah (gA 26) Q ⟨AQ [.v (Th.mk cs vs ps).V,.v (.int .i64 a),.v (.int .i64 h),.v (.int .i64 b)],[]⟩:=
 Sj h1 h2 h3 a h b false true (λh=>by cases h) (λh=>by cases h) (λ_=>hps) Q (λk=>by have:=hQ k;rw[←Qp]at this;exact this)
theorem dv (hps:ps≠[]) (ha:0 <An a 3) (k:Nat) (hk:An (IntKind.i64.wrap (a.tdiv 3)) ps.length=k) (p t:Th) (hp:ps[k]?=some p)
  (q:PX 26 [p.V,.int .i64 (IntKind.i64.wrap (a.tdiv 9)),.int .i64 h,.int .i64 b] [t.V]):
  awp Tryz.prog Ah (gA 26) (dg [AH .i64 cs,.list (vs.map Val.V),.list ((ps.set k t).map Th.V)])
  ⟨AQ [.v (Th.mk cs vs ps).V,.v (.int .i64 a),.v (.int .i64 h),.v (.int .i64 b)],[]⟩:=by
 obtain⟨P,hP⟩:∃P,dg [AH .i64 cs,.list (vs.map Val.V),.list ((ps.set k t).map Th.V)]=P:=⟨_,rfl⟩;rw[hP];refine XL h1 h2 h3 a h b hps _ ?_;intro kc;have hlen:0 <ps.length:=List.length_pos_iff.2 hps;obtain⟨hkl,_⟩:=oM.1 hp;have q1:=(Pb a 3 (by decide)).fsp;have q2:=(Pb (IntKind.i64.wrap (a.tdiv 3)) ps.length (by omega)).fsp;rw[hk]at q2;simp at q1 q2;have hfl:=MY IR ps;have hat:=Og IR ps k p hp;have hset:=MX IR ps k t hkl;have hsl:=MY IR (ps.set k t);rw[qB]at hsl;obtain⟨R,hR⟩:∃R,(ps.flatMap fT).map D.v++List.replicate kc .any=R:=⟨_,rfl⟩;have hRl:ps.length*3≤R.length:=by rw[←hR];simp[hfl]
 have hR1:(R.drop (k*3)).take 3=(fT p).map D.v:=by
  rw[←hR,List.drop_append_of_le_length (by simp[hfl];omega),qp (by simp[hfl];omega),←qQ,←o8,hat]
 have hR2:(AO R (k*3) ((fT t).map D.v)).take (ps.length*3)=((ps.set k t).flatMap fT).map D.v:=by
  rw[←hR,Sg _ _ _ _ (by rw[IR];omega),IR,hset,List.take_left' (by simp[hsl])]
 have hR2l:(AO R (k*3) ((fT t).map D.v)).length=R.length:=by simp[AO,IR];omega
 rw[hR];clear hR hat hset hfl hsl;generalize hRR:AO R (k*3) ((fT t).map D.v)=R' at*;obtain⟨tc,tv,tp⟩:=t;obtain⟨pc,pv,pp⟩:=p;simp only[fT,Th.cs,Th.vs,Th.ps,oV,pf]at hR1 hRR;rw[Th.V_eq,Th.V_eq]at q;rw[show Gj= .seq (.seq (.reg (oG 26 5) _) (.cond (.t 42 false) (.seq (.reg (oG 26 6) _) (.seq (.regD (oG 26 7) _ _) (.seq (.reg (oG 26 8) _) .ret))) .skip)) Gi from rfl];generalize Gi=C at*;simp only[AE,AF,AK,AA 26 5,Ry,z26];simp[hlen];refine⟨_,_,q1 _,?_⟩;simp[ha];simp only[AA 26 6];simp;refine⟨_,_,q2 _,?_⟩;simp;simp only[AS,AA 26 7];have hbR:k*3+3≤R.length:=by omega
 simp[hkl,hR1,hbR];refine⟨_,_,⟨rfl,rfl⟩,_,q,?_⟩;have hbR':k*3+3≤R'.length:=by omega
 simp[hRR];simp only[AA 26 8];simp[Th.cells];simp[AO,AB];rw[←hP];refine⟨trivial,[.v (.list (cs.map (.int .i64))),.v (.list (vs.map Val.V)),.sref 3 ps.length],R',2,3,ps.length,3,(ps.set k (Th.mk tc tv tp)).map Th.V,?_,rfl,rfl,by simp,?_,?_,?_⟩
 ·simp[AW 26,D.one?]
 ·intro x hx;obtain⟨⟨c,v,y⟩,_,rfl⟩:=oP.1 hx;rw[Th.V_eq];rfl
 ·rw[hR2,Qp];exact KX _
 ·simp[AH]
theorem mZ (hps:ps≠[]) (ha:0 <An a 3) (k:Nat) (hk:An (IntKind.i64.wrap (a.tdiv 3)) ps.length=k) (p t:Th) (hp:ps[k]?=some p)
  (q:PX 26 [p.V,.int .i64 (IntKind.i64.wrap (a.tdiv 9)),.int .i64 h,.int .i64 b] [t.V]):
  PX 26 [(Th.mk cs vs ps).V,.int .i64 a,.int .i64 h,.int .i64 b] [(Th.mk cs vs (ps.set k t)).V]:=by
 rw[Th.V_eq cs vs (ps.set k t)];have f:FX 26 [.v (Th.mk cs vs ps).V,.v (.int .i64 a),.v (.int .i64 h),.v (.int .i64 b)] [] [.v (.agg [AH .i64 cs,.list (vs.map Val.V),.list ((ps.set k t).map Th.V)])] []:=Qn (D4 26) rfl (dv h1 h2 h3 a h b hps ha k hk p t hp q);exact E6 (args:=[_,_,_,_]) (rets:=[_]) f
end
theorem nN {t:Th} (hw:t.wee):∀a h b:Int,i64 a→i64 h→i64 b→T26 t a h b:=by
 induction hw with
 | @mk cs vs ps h1 h2 h3 h4 h5 ih=>
  intro a h b ha hh hb;have hw:(Th.mk cs vs ps).wee:= .mk h1 h2 h3 h4 h5;by_cases hps:ps=[]
  ·exact t26 h1 h2 h3 a h b hw (.inl hps) hh hb
  by_cases h0:0 <An a 3
  ·have hlen:0 <ps.length:=List.length_pos_iff.2 hps;have g1:=EP (IntKind.i64.wrap (a.tdiv 3)) ps.length (Em _);have g2:=(EQ (IntKind.i64.wrap (a.tdiv 3)) ps.length (by omega)).2;obtain⟨k,hk⟩:∃k:Nat,An (IntKind.i64.wrap (a.tdiv 3)) ps.length=k:=⟨(An (IntKind.i64.wrap (a.tdiv 3)) ps.length).toNat,by omega⟩;obtain⟨p,hp⟩:∃p,ps[k]?=some p:=⟨_,oI (by omega)⟩;obtain⟨t2,ok2,sm2,sz2,q⟩:=ih p (oK hp) (IntKind.i64.wrap (a.tdiv 9)) h b (Em _) hh hb;have hs:=MJ ps k p t2 hp;refine T26.of hw (cs2:=cs) (vs2:=vs) (ps2:=ps.set k t2) (by omega) (by omega) (by simp;omega) h4 (λx hx=>?_) (by omega) (mZ h1 h2 h3 a h b hps h0 k hk p t2 hp q);rcases pk hx with hx|rfl
   ·exact(h5 x hx).fit
   ·exact⟨ok2,sm2⟩
  ·exact t26 h1 h2 h3 a h b hw (.inr h0) hh hb
end Go.Va
