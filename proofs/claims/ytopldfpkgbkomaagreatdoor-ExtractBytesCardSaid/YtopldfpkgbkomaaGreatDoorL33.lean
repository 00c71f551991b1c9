/- Laws that ExtractBytes leans on, part 33. No condition of its own. -/
import Derived.Test.YtopldfpkgbkomaaGreatDoorL28
import Derived.Test.YtopldfpkgbkomaaGreatDoorL29
set_option linter.all false
set_option maxRecDepth 100000
set_option maxHeartbeats 4000000
noncomputable section
namespace Go.Va
open Go.Proofs
def E8 (pa:Int) (rs:List Rgt):List Int:=(rs.filter λr=>r.owners.any λo=>o.party==pa).map Rgt.file
def AC.L:AC→AC
 | .seq a _=>a
 | .block _ c=>c
 |_=> .skip
def AC.R:AC→AC
 | .seq _ b=>b
 |_=> .skip
theorem Lt {α β:Type} {f:α→List β} {s:Nat} (hf:∀x,(f x).length=s):∀(l:List α) (i:Nat) (x:α),l[i]?=some x→((l.flatMap f).drop (i*s)).take s=f x
 |[],i,x,h=>by simp at h
 |y::l,0,x,h=>by
  simp only[tT,qF]at h;subst h;have:=hf y;simp[qN,this]
 |y::l,i+1,x,h=>by
  have hy:=hf y;simp only[sU]at h;rw[qN,tA,Nat.add_comm,←List.drop_drop];have:(f y++l.flatMap f).drop s=l.flatMap f:=by rw[←hy];simp
  rw[this];exact Lt hf l i x h
theorem KA {α β:Type} {f:α→List β} {s:Nat} (hf:∀x,(f x).length=s):∀(l:List α) (i:Nat) (y:α),i <l.length→(l.flatMap f).take (i*s)++(f y++(l.flatMap f).drop (i*s+s))=(l.set i y).flatMap f
 |[],i,y,h=>by simp at h
 |z::l,0,y,h=>by
  have:=hf z;simp[qN,←this]
 |z::l,i+1,y,h=>by
  have hz:=hf z;have ih:=KA hf l i y (by simpa using h);rw[List.set_cons_succ,qN,qN,←ih,tA];have e1:(f z++l.flatMap f).take (i*s+s)=f z++(l.flatMap f).take (i*s):=by
   rw[List.take_append,hz,qw (by omega)]
   congr 2;omega
  have e2:(f z++l.flatMap f).drop (i*s+s+s)=(l.flatMap f).drop (i*s+s):=by
   rw[List.drop_append,hz,List.drop_of_length_le (by omega),sX]
   congr 1;omega
  rw[e1,e2,qg]
theorem FO {α β:Type} {f:α→List β} {s:Nat} (hf:∀x,(f x).length=s) (l:List α):(l.flatMap f).length=l.length*s:=by
 induction l with
 |nil=>simp
 |cons x l ih=>simp only[qN,qG,ih,hf,qT,tA];omega
inductive Th.wee:Th→Prop
 |mk {cs vs ps} (h0:∀c∈cs,i64 c) (h1:cs.length≤1000) (h2:vs.length≤1000) (h3:ps.length≤1000) (h4:∀x∈vs,Val.ok x) (h5:∀p∈ps,Th.wee p):Th.wee (.mk cs vs ps)
inductive Th.wid:Th→Prop
 |mk {cs vs ps} (h0:∀c∈cs,i64 c) (h1:cs.length≤2100) (h2:vs.length≤2100) (h3:ps.length≤2100) (h4:∀x∈vs,Val.ok x) (h5:∀p∈ps,Th.wid p):Th.wid (.mk cs vs ps)
theorem Th.wee.wid {t:Th} (h:t.wee):t.wid:=by
 induction h with
 |mk h0 h1 h2 h3 h4 _ ih=>exact .mk h0 (by omega) (by omega) (by omega) h4 ih
theorem Th.wid.fit {t:Th} (h:t.wid):t.ok∧t.small:=by
 induction h with
 |mk h0 h1 h2 h3 h4 _ ih=>exact⟨.mk (by omega) (by omega) (by omega) h4 λp hp=>(ih p hp).1,.mk (by omega) (by omega) (by omega) λp hp=>(ih p hp).2⟩
theorem Jo:∀(a b:List Th),Th.sizes (a++b)=Th.sizes a+Th.sizes b
 |[],b=>by simp[Th.sizes]
 |x::a,b=>by simp[Th.sizes,Jo a b,Nat.add_assoc]
theorem Mq:∀(a:List Th) (k:Nat) (p q:Th),a[k]?=some p→Th.sizes (a.set k q)≤Th.sizes a+q.size-p.size∧p.size≤Th.sizes a
 |x::a,0,p,q,h=>by
  simp at h;subst h;simp[Th.sizes];omega
 |x::a,k+1,p,q,h=>by
  have:=Mq a k p q (by simpa using h);simp[Th.sizes];omega
theorem Sd (n:Nat):Th.sizes (List.replicate n (.mk [] [] []))=n:=by
 induction n with
 |zero=>rfl
 |succ n ih=>rw[uD,Th.sizes,ih];simp[Th.size,Th.sizes];omega
def T26 (t:Th) (a h b:Int):Prop:=∃t2:Th,t2.wid∧t2.size≤t.size+200∧PX 26 [t.V,.int .i64 a,.int .i64 h,.int .i64 b] [t2.V]
theorem T26.of {cs:List Int} {vs:List Val} {ps:List Th} (hw:(Th.mk cs vs ps).wee) {a h b:Int} {cs2:List Int} {vs2:List Val} {ps2:List Th} (h0:∀c∈cs2,i64 c) (h1:cs2.length≤2100) (h2:vs2.length≤2100) (h3:ps2.length≤2100) (h4:∀x∈vs2,Val.ok x) (h5:∀p∈ps2,p.wid)
  (hs:Th.sizes ps2≤Th.sizes ps+200) (hp:PX 26 [(Th.mk cs vs ps).V,.int .i64 a,.int .i64 h,.int .i64 b] [(Th.mk cs2 vs2 ps2).V]):T26 (.mk cs vs ps) a h b:=
 ⟨_,.mk h0 (by omega) (by omega) (by omega) h4 h5,by simp only[Th.size];omega,hp⟩
def Vr:AC:=la 26
def HK:AC:=Vr.R.R.R.R.R
def HJ:AC:=HK.R
def Ix:AC:=HJ.L.R.L
theorem bX:(gA 26)= .seq (.reg (oG 26 0) [1,2,3,4,8]) (.seq (.reg (oG 26 1) [1,2,3,4,8,9]) (.seq (.reg (oG 26 2) [1,2,3,4,8,9]) (.seq (.reg (oG 26 3) [1,2,3,4,8,9]) (.seq (.reg (oG 26 4) [1,2,3,4,8,9]) HK)))):=(At 26 :)
def Ik:Nat→Th
 |0=> .mk [] [] []
 |k+1=> .mk [] [] [Ik k]
theorem PM:∀k,(Ik k).wid∧(Ik k).size=k+1
 |0=>⟨.mk (by simp) (by simp) (by simp) (by simp) (by simp) (by simp),rfl⟩
 |k+1=>by
  obtain⟨a,c⟩:=PM k;exact⟨.mk (by simp) (by simp) (by simp) (by simp) (by simp) (by simpa using a),by simp[Ik,Th.size,Th.sizes,c];omega⟩
theorem Zt (k:Nat):(Ik k).V= .agg [.list [],.list [],.list (match k with|0=>[]|j+1=>[(Ik j).V])]:=by
 cases k<;>simp[Ik,Th.V_eq,AH]
def fT (t:Th):List V:=[AH .i64 t.cs,.list (t.vs.map Val.V),.list (t.ps.map Th.V)]
theorem Is (t:Th):(fT t).length=3:=rfl
theorem SG (l:List Th):(l.map Th.V).flatMap V.cells=l.flatMap fT:=by
 induction l with
 |nil=>rfl
 |cons x l ih=>
  obtain⟨c,v,p⟩:=x;rw[qR,qN,qN,ih,Th.V_eq];rfl
theorem Pc (l:List Int):(l.map (V.int .i64)).flatMap V.cells=l.map (V.int .i64):=by
 induction l with
 |nil=>rfl
 |cons x l ih=>rw[qR,qN,ih];rfl
section
variable {cs:List Int} {vs:List Val} {ps:List Th} (h1:cs.length≤1000) (h2:vs.length≤1000) (h3:ps.length≤1000) (a h b:Int)
def z26:Row:= .cells [.own 3 1 [],.own 171 3 [],.own 58 3 []]
def ae (a h b:Int):CH:=[(1,.v (.int .i64 a)),(2,.v (.int .i64 h)),(3,.v (.int .i64 b)),(4,.ref 0 0),(8,.ref 1 0),(9,.ref 2 0)]
theorem U3 (l:List Val):BG 3 (l.map Val.V)=true:=by cases l<;>rfl
theorem fy (l:List Th):BG 3 (l.map Th.V)=true:=by
 cases l with
 |nil=>rfl
 |cons x l=>obtain⟨c,v,p⟩:=x;simp[BG,Th.V_eq,V.cells]
theorem Yf (l:List Int):BG 1 (l.map (.int .i64))=true:=by cases l<;>rfl
include h1 h2 h3
theorem UX (bc bp:Bool) (hb:bc=true→bp=false) (hc:bc=true→cs≠[]) (hp:bp=true→ps≠[]) (Q:AExit→St→Prop)
  (hQ:∀k,awp Tryz.prog An HK Q ⟨ae a h b,[.cells (Th.mk cs vs ps).cells,z26,.cells [if bc then .sref 3 cs.length else .own 3 1 (cs.map (.int .i64)),.own 171 3 (vs.map Val.V),if bp then .sref 3 ps.length else .own 58 3 (ps.map Th.V)]]++
   (if bc then [.cells (((cs.map (V.int .i64)).flatMap V.cells).map .v++List.replicate k .any)] else [])++(if bp then [.cells (((ps.map Th.V).flatMap V.cells).map .v++List.replicate k .any)] else [])⟩):
  awp Tryz.prog An (gA 26) Q ⟨Ab [.v (Th.mk cs vs ps).V,.v (.int .i64 a),.v (.int .i64 h),.v (.int .i64 b)],[]⟩:=by
 have r1:AK cs.length 8=true:=by simp[AK];omega
 have r2:AK vs.length 24=true:=by simp[AK];omega
 have r3:AK ps.length 72=true:=by simp[AK];omega
 have g1:=Yf cs;have g2:=U3 vs;have g3:=fy ps;simp only[Th.V_eq,Th.cells,Th.cs,Th.vs,Th.ps,z26,ae,AH]at*;rw[bX];simp only[AE,AG,AA 26 0,Ab];simp;simp only[AA 26 1];simp[AS];simp only[AA 26 2];cases bc with
 |false=>
  simp[r1,g1,AS]
  left
  simp only[AA 26 3];simp[r2,g2];simp only[AA 26 4];cases bp with
  |false=>
   simp[r3,g3,AS]
   left
   simpa using hQ 0
  |true=>
   have hn:ps≠[]:=hp rfl;simp[r3,g3,AS,hn]
   right
   intro k;simpa using hQ k
 |true=>
  have hn:cs≠[]:=hc rfl;have hbp:=hb rfl;subst hbp;simp[r1,g1,AS,hn]
  right
  intro k;simp only[AA 26 3];simp[r2,g2];simp only[AA 26 4];simp[r3,g3,AS]
  left
  simpa using hQ k
def DH (cs:List Int) (vs:List Val) (ps:List Th) (c0:D) (X:List Row):List Row:= .cells (Th.mk cs vs ps).cells::z26:: .cells [c0,.own 171 3 (vs.map Val.V),.own 58 3 (ps.map Th.V)]::X
omit h1 h2 in
theorem oL (hn:ps=[]∨¬0 <Aj a 3) (c0:D) (X:List Row) (Q:AExit→St→Prop)
  (hQ:∀e,AF e 2= .v (.int .i64 h)→AF e 3= .v (.int .i64 b)→AF e 4= .ref 0 0→AF e 8= .ref 1 0→AF e 9= .ref 2 0→awp Tryz.prog An HJ Q ⟨e,DH cs vs ps c0 X⟩):
  awp Tryz.prog An HK Q ⟨ae a h b,DH cs vs ps c0 X⟩:=by
 have q1:=(MW a 3 (by decide)).fsp;simp at q1;rw[show HK= .seq (.seq (.reg (oG 26 5) _) (.cond (.t 42 false) _ .skip)) HJ from rfl];generalize HJ=C at*;simp only[AE,AG,AL,AA 26 5,ae,DH]at hQ ⊢;by_cases hps:ps=[]
 ·subst hps;simp[AB]
  try simp at hQ
  exact hQ _ rfl rfl rfl rfl rfl
 ·have hpos:=hn.resolve_left hps;have hlen:0 <ps.length:=List.length_pos_iff.2 hps;simp[hlen]
  first|refine⟨_,_,q1 _,?_⟩|refine⟨_,q1 _,?_⟩|refine⟨_,⟨_,q1 _⟩,?_⟩|exact⟨_,q1 _⟩|exact⟨_,_,q1 _⟩|refine⟨⟨_,q1 _⟩,?_⟩
  simp[hpos,AB]
  try simp at hQ
  exact hQ _ rfl rfl rfl rfl rfl
theorem om (hn:ps=[]∨¬0 <Aj a 3) {cs2:List Int} {vs2:List Val} {ps2:List Th}
  (hw:awp Tryz.prog An Ix (λe s=>(e= .normal∨e= .exit 0)∧AF s.e 8= .ref 1 0∧AF s.e 9= .ref 2 0∧∃R J,s.h=R::z26:: .cells [.own 3 1 (cs2.map (.int .i64)),.own 171 3 (vs2.map Val.V),.own 58 3 (ps2.map Th.V)]::J)
   ⟨[(3,.v (.int .i64 b)),(4,.ref 0 0),(8,.ref 1 0),(9,.ref 2 0),(65,.v (.int .i64 (Aj h 9)))],DH cs vs ps (.own 3 1 (cs.map (.int .i64))) []⟩):
  PX 26 [(Th.mk cs vs ps).V,.int .i64 a,.int .i64 h,.int .i64 b] [(Th.mk cs2 vs2 ps2).V]:=by
 refine BU 26 ?_;refine UX h1 h2 h3 a h b false false (λh=>by cases h) (λh=>by cases h) (λh=>by cases h) _ ?_;intro _;have q2:=(MW h 9 (by decide)).fsp;simp at q2;refine oL h3 a h b hn _ [] _ ?_;intro e f2 f3 f4 f8 f9;rw[show HJ= .seq (.seq (.reg (oG 26 9) _) (.block 0 Ix)) (.seq (.reg (oG 26 39) _) .ret) from rfl];simp only[AE,AG,AU,AA 26 9];simp[f2]
 first|refine⟨_,_,q2 _,?_⟩|refine⟨_,q2 _,?_⟩|refine⟨_,⟨_,q2 _⟩,?_⟩|exact⟨_,q2 _⟩|exact⟨_,_,q2 _⟩|refine⟨⟨_,q2 _⟩,?_⟩
 simp[f3,f4,f8,f9];refine AZ _ ?_ hw;rintro e ⟨se,sh⟩ ⟨he,g8,g9,R,J,hh⟩;simp only at g8 g9 hh;subst hh;rcases he with rfl|rfl<;>simp[AA 26 39,z26,g8,g9,AS,AD,AX 26,D.vs?,D.v?,Th.V_eq,AH]
omit h1 h2 h3 in
theorem XP {a:Int} (l:List Int) (h0:0≤a) (h:a <l.length):∃x∈l,(l.map (V.int .i64))[a.toNat]?=some (.int .i64 x):=by
 have hx:l[a.toNat]?=some (l[a.toNat]'(by omega)):=qH _;exact⟨_,qJ hx,by rw[qZ,hx];rfl⟩
end
def MS (cs:List Int) (k m:Nat):List D:=((cs.reverse.take k++cs.drop k).map λx=>D.v (.int .i64 x))++List.replicate m .any
theorem UE (cs:List Int) (k m:Nat) (hk:k≤cs.length):(MS cs k m).length=cs.length+m:=by
 simp[MS];omega
theorem UT (X R:List D) (p q:D) (k:Nat) (h:k=X.length):AS (X++p::R) k [q]=X++q::R:=by
 subst h;simp[AS,List.drop_append]
theorem UD (cs:List Int) (k m:Nat) (x:Int) (hk:k <cs.length) (hx:cs.reverse[k]?=some x):AS (MS cs k m) k [D.v (.int .i64 x)]=MS cs (k+1) m:=by
 have e1:cs.drop k=cs[k]::cs.drop (k+1):=tu hk;have hl:(cs.reverse.take k).length=k:=by simp;omega
 obtain⟨A,hA⟩:∃A,cs.reverse.take k=A:=⟨_,rfl⟩;unfold MS;rw[qc,hx,e1,hA];rw[hA]at hl;generalize cs.drop (k+1)=B;generalize cs[k]=y;clear hA e1 hx;subst hl;have e:((A++y::B).map λx=>D.v (.int .i64 x))++List.replicate m D.any=(A.map λx=>D.v (.int .i64 x))++(D.v (.int .i64 y)::((B.map λx=>D.v (.int .i64 x))++List.replicate m D.any)):=by simp
 rw[e,UT _ _ _ _ _ (by simp)];simp
theorem UF (cs:List Int) (m:Nat):D.vs? ((MS cs cs.length m).take (cs.length*1))=some ((cs.reverse.map (V.int .i64)).flatMap V.cells):=by
 have e0:cs.reverse.take cs.length=cs.reverse:=qw (by simp);unfold MS;rw[e0,List.drop_length,sI,Pc,Nat.mul_one,List.take_left' (by simp)];have:=NZ (cs.reverse.map (V.int .i64))
 rwa [uL]at this
section
variable {cs:List Int} {vs:List Val} {ps:List Th} (h1:cs.length≤1000) (h2:vs.length≤1000) (h3:ps.length≤1000) (a h b:Int)
include h1 h2 h3
theorem Zd (hcs:cs≠[]) (Q:AExit→St→Prop) (hQ:∀k,awp Tryz.prog An HK Q ⟨ae a h b,DH cs vs ps (.sref 3 cs.length) [.cells (((cs.map (V.int .i64)).flatMap V.cells).map .v++List.replicate k .any)]⟩):
  awp Tryz.prog An (gA 26) Q ⟨Ab [.v (Th.mk cs vs ps).V,.v (.int .i64 a),.v (.int .i64 h),.v (.int .i64 b)],[]⟩:=
 UX h1 h2 h3 a h b true false (λ_=>rfl) (λ_=>hcs) (λh=>by cases h) Q hQ
def ic (ys:List V):AExit→St→Prop:=λe s=>(match e with| .exit _=>False|_=>True)∧∃(ds cs:List D) (i r m sz:Nat) (xs:List V),DS s (gR 26)=some [.agg ds]∧ds[i]?=some (.sref r m)∧s.h[r]?=some (.cells cs)∧xs.length=m∧(∀x∈xs,x.cells.length=sz)∧
   D.vs? (cs.take (m*sz))=some (xs.flatMap V.cells)∧ds.set i (.v (.list xs))=ys.map .v
theorem ij (hcs:cs≠[]) (hn:ps=[]∨¬0 <Aj a 3) (h7:Aj h 9=7):awp Tryz.prog An (gA 26) (ic [AH .i64 cs.reverse,.list (vs.map Val.V),.list (ps.map Th.V)])
  ⟨Ab [.v (Th.mk cs vs ps).V,.v (.int .i64 a),.v (.int .i64 h),.v (.int .i64 b)],[]⟩:=by
 obtain⟨P,hP⟩:∃P,ic [AH .i64 cs.reverse,.list (vs.map Val.V),.list (ps.map Th.V)]=P:=⟨_,rfl⟩;rw[hP];refine Zd h1 h2 h3 a h b hcs _ ?_;intro kc;have q2:=(MW h 9 (by decide)).fsp;rw[h7]at q2;simp at q2;have key:=oL (cs:=cs) (vs:=vs) (ps:=ps) h3 a h b hn (.sref 3 cs.length) [.cells (((cs.map (V.int .i64)).flatMap V.cells).map .v++List.replicate kc .any)] P
 with_reducible refine key ?_
 clear key;intro e f2 f3 f4 f8 f9;rw[Pc,show HJ= .seq (.seq (.reg (oG 26 9) _) (.block 0 Ix)) (.seq (.reg (oG 26 39) _) .ret) from rfl];simp only[AE,AG,AU,AA 26 9];simp[f2];refine⟨_,_,q2 _,?_⟩;simp[f3,f4,f8,f9];simp only[Ix,HJ,HK,Vr,la,AC.L,AC.R,AE,AG,AL,AA 26 12,AA 26 14,AA 26 16,AA 26 18,AA 26 20,AA 26 22,AA 26 27,AA 26 34];simp;simp only[AU,AA 26 35];simp;have e00:(cs.map (V.int .i64)).map D.v++List.replicate kc D.any=MS cs 0 kc:=by simp[MS,tH]
 refine AM cs.length (λk=>⟨[(4,.ref 0 0),(8,.ref 1 0),(9,.ref 2 0),(14,.v (.int .i64 k))],DH cs vs ps (.sref 3 cs.length) [.cells (MS cs k kc)]⟩) (by rw[←e00];simp[DH]) ?_;intro k hk;simp only[Zw,BA 26 2,AA 26 36,DH,z26];simp;by_cases h5:k <cs.length
 ·obtain⟨x,hx⟩:∃x,cs[cs.length-1-k]?=some x:=⟨_,qH (by omega)⟩;have hxr:cs.reverse[k]?=some x:=by rw[List.getElem?_reverse h5];exact hx
  have w1:=Bo k;have w2:IntKind.i64.wrap ((cs.length:Int)-1)=cs.length-1:=AQ;have w3:IntKind.i64.wrap ((cs.length:Int)-1-k)=cs.length-1-k:=AQ;have hn1:((cs.length:Int)-1-k).toNat=cs.length-1-k:=by omega
  have hb0:(0:Int)≤(cs.length:Int)-1-k:=by omega
  have hb1:(cs.length:Int)-1-k <cs.length:=by omega
  have hle:(k:Int)≤cs.length-1:=by omega
  have hput:=UD cs k kc x h5 hxr;have hlen:=UE cs k kc hk;have hlen2:k+1≤cs.length+kc:=by omega
  rw[if_pos h5,AB];simp only[AW,AA 26 38];simp[Th.cells,Th.cs,Th.vs,Th.ps,AH,w2,w3,hn1,hle,hx,hlen,hlen2,hput,h5];simp[AA 26 37,w1]
 ·obtain rfl:k=cs.length:=by omega
  rw[if_neg (by omega),AJ];simp[AA 26 39,AS,AD];rw[←hP];refine⟨trivial,[.sref 3 cs.length,.v (.list (vs.map Val.V)),.v (.list (ps.map Th.V))],_,0,3,cs.length,1,cs.reverse.map (V.int .i64),?_,rfl,rfl,by simp,?_,UF cs kc,?_⟩
  ·simp[AX 26,D.one?]
  ·intro x hx;obtain⟨y,_,rfl⟩:=qX.1 hx;rfl
  ·simp[AH]
theorem v26 (hcs:cs≠[]) (hn:ps=[]∨¬0 <Aj a 3) (h7:Aj h 9=7):PX 26 [(Th.mk cs vs ps).V,.int .i64 a,.int .i64 h,.int .i64 b] [(Th.mk cs.reverse vs ps).V]:=by
 rw[Th.V_eq cs.reverse vs ps];have f:FX 26 [.v (Th.mk cs vs ps).V,.v (.int .i64 a),.v (.int .i64 h),.v (.int .i64 b)] [] [.v (.agg [AH .i64 cs.reverse,.list (vs.map Val.V),.list (ps.map Th.V)])] []:=K8 (KN 26) rfl (ij h1 h2 h3 a h b hcs hn h7);exact Gf (args:=[_,_,_,_]) (rets:=[_]) f
end
def M7 (k:Nat):D:=match k with|0=> .own 58 3 []|j+1=> .v (.list [(Ik j).V])
theorem Wz:M7 0= .own 58 3 []:=rfl
theorem Wx (k:Nat):M7 (k+1)= .v (.list [(Ik k).V]):=rfl
def Rw (k:Nat):List V:=match k with|0=>[]|j+1=>[(Ik j).V]
theorem Wy (k:Nat):(M7 k).copy= .v (.list (Rw k)):=by cases k<;>rfl
theorem Zs (k:Nat):(Ik k).V= .agg [.list [],.list [],.list (Rw k)]:=Zt k
section
variable {cs:List Int} {vs:List Val} {ps:List Th} (h1:cs.length≤1000) (h2:vs.length≤1000) (h3:ps.length≤1000) (a h b:Int)
theorem ou (r1:AK (cs.length+cs.length) 8=true) (r2:AK (vs.length+vs.length) 24=true):
  awp Tryz.prog An Ix (λe s=>(e= .normal∨e= .exit 0)∧AF s.e 8= .ref 1 0∧AF s.e 9= .ref 2 0∧∃R J,s.h=R::z26:: .cells [.own 3 1 ((cs++cs).map (.int .i64)),.own 171 3 ((vs++vs).map Val.V),.own 58 3 (ps.map Th.V)]::J)
   ⟨[(3,.v (.int .i64 b)),(4,.ref 0 0),(8,.ref 1 0),(9,.ref 2 0),(65,.v (.int .i64 8))],DH cs vs ps (.own 3 1 (cs.map (.int .i64))) []⟩:=by
 have g1:=Yf cs;have g2:=U3 vs;have l1:(cs.map (V.int .i64)).length=cs.length:=by simp
 have l2:(vs.map Val.V).length=vs.length:=by simp
 rw[qh,qh];simp only[DH,Th.cells,Th.cs,Th.vs,Th.ps,AH];generalize cs.map (V.int .i64)=X at*;generalize vs.map Val.V=Y at*;generalize ps.map Th.V=Z at*;rw[←l1]at r1;rw[←l2]at r2;clear l1 l2;simp only[Ix,HJ,HK,Vr,la,AC.L,AC.R,AE,AG,AL,AA 26 12,AA 26 14,AA 26 16,AA 26 18,AA 26 20,AA 26 22,AA 26 27,AA 26 34];simp;simp only[AA 26 10];simp[z26,r2,g2];simp only[AA 26 11];simp[r1,g1]
include h3
theorem pe (m:Nat) (hm:Aj b 4=m) (q4:∀h,FX 11 [.v (.int .i64 b),.v (.int .i64 4)] h [.v (.int .i64 (Aj b 4))] h) (hmb:m <4):
  awp Tryz.prog An Ix (λe s=>(e= .normal∨e= .exit 0)∧AF s.e 8= .ref 1 0∧AF s.e 9= .ref 2 0∧∃R J,s.h=R::z26:: .cells [.own 3 1 (cs.map (.int .i64)),.own 171 3 (vs.map Val.V),.own 58 3 ((ps++[Ik (5+m)]).map Th.V)]::J)
   ⟨[(3,.v (.int .i64 b)),(4,.ref 0 0),(8,.ref 1 0),(9,.ref 2 0),(65,.v (.int .i64 6))],DH cs vs ps (.own 3 1 (cs.map (.int .i64))) []⟩:=by
 simp only[Ix,HJ,HK,Vr,la,AC.L,AC.R,AE,AG,AL,AA 26 12,AA 26 14,AA 26 16,AA 26 18,AA 26 20,AA 26 22,AA 26 27];simp;simp only[AU,AA 26 28];simp[DH,z26,AS,AA 26 29];refine AM (5+m) (λk=>⟨[(3,.v (.int .i64 b)),(8,.ref 1 0),(9,.ref 2 0),(12,.ref 3 0),(13,.v (.int .i64 k))],[.cells (Th.mk cs vs ps).cells,z26,.cells [.own 3 1 (cs.map (.int .i64)),.own 171 3 (vs.map Val.V),.own 58 3 (ps.map Th.V)],
  .cells [.own 3 1 [],.own 171 3 [],M7 k]]⟩) (by simp[z26,Wz]) ?_
 intro k hk;have w0:IntKind.i64.wrap (5+(m:Int))=5+m:=AQ;have w1:=Bo k;have hv:=Zs k;have hs:=Wx k;have hc:=Wy k;have hroom:AK (ps.length+1) 72=true:=by simp[AK];omega
 simp only[Zw,BA 26 1,AA 26 30];simp;refine⟨_,_,q4 _,?_⟩;simp[hm,w0];by_cases h1:k <5+m
 ·have h1':(k:Int) <5+m:=by omega
  rw[hs,hv];generalize Ik k=N at*;generalize M7 k=M at*;generalize Rw k=X at*;cases M<;>simp only[D.copy,D.v.injEq,V.list.injEq,reduceCtorEq]at hc
  all_goals try subst hc
  all_goals simp[h1',AB,AA 26 32,AS]
  all_goals simp[AA 26 31,w1,h1]
 ·obtain rfl:k=5+m:=by omega
  rw[hv];generalize Ik (5+m)=N at*;generalize M7 (5+m)=M at*;generalize Rw (5+m)=X at*;cases M<;>simp only[D.copy,D.v.injEq,V.list.injEq,reduceCtorEq]at hc
  all_goals try subst hc
  all_goals simp[AJ,AA 26 33,z26,AS,hroom]
include h1 h2
theorem t26 (hw:(Th.mk cs vs ps).wee) (hn:ps=[]∨¬0 <Aj a 3) (hh:i64 h) (hb:i64 b):T26 (.mk cs vs ps) a h b:=by
 have hv1:=CU h 9 hh;have hv2:=(Ck h 9 (by decide)).2;have w:=fun {cs2 vs2 ps2}=>om h1 h2 h3 a h b hn (cs2:=cs2) (vs2:=vs2) (ps2:=ps2);obtain⟨v,hv⟩:∃v,Aj h 9=v:=⟨_,rfl⟩;rw[hv]at w hv1 hv2;have q5:=MW b 5 (by decide);have q4:=MW b 4 (by decide);have b5:=CU b 5 hb;have c5:=(Ck b 5 (by decide)).2;have b4:=CU b 4 hb;have c4:=(Ck b 4 (by decide)).2;have hwv:∀x∈vs,x.ok:=by cases hw;assumption
 have hwc:∀c∈cs,i64 c:=by cases hw;assumption
 have hwp:∀p∈ps,p.wid:=by cases hw with|mk _ _ _ _ _ h5=>exact λp hp=>(h5 p hp).wid
 have rc:AK (cs.length+1) 8=true:=by simp[AK];omega
 have rv:AK (vs.length+1) 24=true:=by simp[AK];omega
 have b9:=CU b 9 hb;have c9:=(Ck b 9 (by decide)).2;have q9:=(MW b 9 (by decide)).fsp;have vok:∀v:Val,v.ok→∀x∈vs++[v],x.ok:=λv hv x hx=>by
  rcases qW.1 hx with hx|hx
  ·exact hwv x hx
  ·rw[qO.1 hx];exact hv
 simp at q5 q4 q9;have hcase:v=0∨v=1∨v=2∨v=3∨v=4∨v=5∨v=6∨v=7∨v=8:=by omega
 rcases hcase with rfl|rfl|rfl|rfl|rfl|rfl|rfl|rfl|rfl
 ·obtain⟨x,hx,hg⟩:=XP [b,-1,0,63,64] b5 (by simpa using c5);have hxi:i64 x:=by simp at hx;rcases hx with rfl|rfl|rfl|rfl|rfl<;>(unfold i64 at *;omega)
  refine T26.of hw (cs2:=cs++[x]) (vs2:=vs) (ps2:=ps) (λc hc=>(qW.1 hc).elim (hwc c) λh=>by rw[qO.1 h];exact hxi) (by simp;omega) (by omega) (by omega) hwv hwp (by omega) (w ?_);simp only[Ix,HJ,HK,Vr,la,AC.L,AC.R,AE,AG,AL,AA 26 12];simp;simp only[AW,AA 26 13];simp[DH,Th.cells,z26,AS];refine⟨_,_,⟨rfl,rfl⟩,_,q5,?_⟩;generalize hL:[V.int .i64 b,V.int .i64 (-1),V.int .i64 0,V.int .i64 63,V.int .i64 64]=L;have hg2:L[(Aj b 5).toNat]?=some (.int .i64 x):=by rw[←hL];exact hg
  have hl2:Aj b 5 <(L.length:Int):=by rw[←hL];exact c5
  obtain⟨_,hg3⟩:=qK.1 hg2;clear hL hg;simp[hg3,hl2,b5,rc]
 ·obtain⟨x,hx,hg⟩:=XP [b,-1,0,31,32] b5 (by simpa using c5);have hxi:i64 x:=by simp at hx;rcases hx with rfl|rfl|rfl|rfl|rfl<;>(unfold i64 at *;omega)
  refine T26.of hw (cs2:=cs) (vs2:=vs++[⟨x,1,1⟩]) (ps2:=ps) hwc (by omega) (by simp;omega) (by omega) (vok _ ⟨hxi,by simp[i64],by simp[i64]⟩) hwp (by omega) (w ?_);simp only[Ix,HJ,HK,Vr,la,AC.L,AC.R,AE,AG,AL,AA 26 12,AA 26 14];simp;simp only[AW,AA 26 15];simp[DH,Th.cells,z26,AS];refine⟨_,_,⟨rfl,rfl⟩,_,q5,?_⟩;generalize hL:[V.int .i64 b,V.int .i64 (-1),V.int .i64 0,V.int .i64 31,V.int .i64 32]=L;have hg2:L[(Aj b 5).toNat]?=some (.int .i64 x):=by rw[←hL];exact hg
  have hl2:Aj b 5 <(L.length:Int):=by rw[←hL];exact c5
  obtain⟨_,hg3⟩:=qK.1 hg2;clear hL hg;simp[hg3,hl2,b5,rv,Val.V]
 ·obtain⟨x,hx,hg⟩:=XP [b,1099511627776,-1099511627776,1099511627777] b4 (by simpa using c4);have hxi:i64 x:=by simp at hx;rcases hx with rfl|rfl|rfl|rfl<;>(unfold i64 at *;omega)
  refine T26.of hw (cs2:=cs) (vs2:=vs++[⟨31,x,1⟩]) (ps2:=ps) hwc (by omega) (by simp;omega) (by omega) (vok _ ⟨by simp[i64],hxi,by simp[i64]⟩) hwp (by omega) (w ?_);simp only[Ix,HJ,HK,Vr,la,AC.L,AC.R,AE,AG,AL,AA 26 12,AA 26 14,AA 26 16];simp;simp only[AW,AA 26 17];simp[DH,Th.cells,z26,AS];refine⟨_,_,⟨rfl,rfl⟩,_,q4,?_⟩;generalize hL:[V.int .i64 b,V.int .i64 1099511627776,V.int .i64 (-1099511627776),V.int .i64 1099511627777]=L;have hg2:L[(Aj b 4).toNat]?=some (.int .i64 x):=by rw[←hL];exact hg
  have hl2:Aj b 4 <(L.length:Int):=by rw[←hL];exact c4
  obtain⟨_,hg3⟩:=qK.1 hg2;clear hL hg;simp[hg3,hl2,b4,rv,Val.V]
 ·obtain⟨x,hx,hg⟩:=XP [b,0,-1,65536,65537] b5 (by simpa using c5);have hxi:i64 x:=by simp at hx;rcases hx with rfl|rfl|rfl|rfl|rfl<;>(unfold i64 at *;omega)
  refine T26.of hw (cs2:=cs) (vs2:=vs++[⟨31,1,x⟩]) (ps2:=ps) hwc (by omega) (by simp;omega) (by omega) (vok _ ⟨by simp[i64],by simp[i64],hxi⟩) hwp (by omega) (w ?_);simp only[Ix,HJ,HK,Vr,la,AC.L,AC.R,AE,AG,AL,AA 26 12,AA 26 14,AA 26 16,AA 26 18];simp;simp only[AW,AA 26 19];simp[DH,Th.cells,z26,AS];refine⟨_,_,⟨rfl,rfl⟩,_,q5,?_⟩;generalize hL:[V.int .i64 b,V.int .i64 0,V.int .i64 (-1),V.int .i64 65536,V.int .i64 65537]=L;have hg2:L[(Aj b 5).toNat]?=some (.int .i64 x):=by rw[←hL];exact hg
  have hl2:Aj b 5 <(L.length:Int):=by rw[←hL];exact c5
  obtain⟨_,hg3⟩:=qK.1 hg2;clear hL hg;simp[hg3,hl2,b5,rv,Val.V]
 ·refine T26.of hw (cs2:=cs) (vs2:=vs++[⟨31,IntKind.i64.wrap (2*b),6⟩]) (ps2:=ps) hwc (by omega) (by simp;omega) (by omega) (vok _ ⟨by simp[i64],EA _,by simp[i64]⟩) hwp (by omega) (w ?_);simp only[Ix,HJ,HK,Vr,la,AC.L,AC.R,AE,AG,AL,AA 26 12,AA 26 14,AA 26 16,AA 26 18,AA 26 20];simp;simp[AA 26 21,DH,Th.cells,z26,AS,rv,Val.V]
 ·obtain⟨m,hm⟩:∃m:Nat,Aj b 9=m:=⟨(Aj b 9).toNat,by omega⟩;refine T26.of hw (cs2:=cs) (vs2:=vs) (ps2:=ps++List.replicate (90+m) (.mk [] [] [])) hwc (by omega) (by omega) (by simp;omega) hwv (λp hp=>?_) (by rw[Jo,Sd];omega) (w ?_)
  ·rcases qW.1 hp with hp|hp
   ·exact hwp p hp
   ·rw[List.eq_of_mem_replicate hp];exact .mk (by simp) (by simp) (by simp) (by simp) (by simp) (by simp)
  ·simp only[Ix,HJ,HK,Vr,la,AC.L,AC.R,AE,AG,AL,AA 26 12,AA 26 14,AA 26 16,AA 26 18,AA 26 20,AA 26 22];simp;simp only[AU,AA 26 23];simp;refine AM (90+m) (λk=>⟨[(3,.v (.int .i64 b)),(8,.ref 1 0),(9,.ref 2 0),(11,.v (.int .i64 k))],[.cells (Th.mk cs vs ps).cells,z26,.cells [.own 3 1 (cs.map (.int .i64)),.own 171 3 (vs.map Val.V),.own 58 3 ((ps++List.replicate k (Th.mk [] [] [])).map Th.V)]]⟩) (by simp[DH]) ?_;intro k hk;have w0:IntKind.i64.wrap (90+(m:Int))=90+m:=AQ;have w1:=Bo k;have hroom:AK (ps.length+k+1) 72=true:=by simp[AK];omega
   simp only[Zw,BA 26 0,AA 26 24];simp
   first|refine⟨_,_,q9 _,?_⟩|refine⟨_,q9 _,?_⟩|refine⟨_,⟨_,q9 _⟩,?_⟩|exact⟨_,q9 _⟩|exact⟨_,_,q9 _⟩|refine⟨⟨_,q9 _⟩,?_⟩
   simp[hm,w0];by_cases h1:k <90+m
   ·have h1':(k:Int) <90+m:=by omega
    simp[h1',AB,AA 26 26,z26,AS,hroom];simp[AA 26 25,w1,h1,List.replicate_succ',Th.V_eq,AH]
   ·obtain rfl:k=90+m:=by omega
    simp[AJ,z26]
 ·obtain⟨m,hm⟩:∃m:Nat,Aj b 4=m:=⟨(Aj b 4).toNat,by omega⟩;obtain⟨n1,n3⟩:=PM (5+m);have q4':=q4.fsp;simp at q4';refine T26.of hw (cs2:=cs) (vs2:=vs) (ps2:=ps++[Ik (5+m)]) hwc (by omega) (by omega) (by simp;omega) hwv (λp hp=>?_) (by rw[Jo];simp[Th.sizes,n3];omega) (w ?_)
  ·rcases qW.1 hp with hp|hp
   ·exact hwp p hp
   ·rw[qO.1 hp];exact n1
  ·exact pe h3 b m hm q4' (by omega)
 ·by_cases hcs:cs=[]
  ·refine T26.of hw (cs2:=cs) (vs2:=vs) (ps2:=ps) hwc (by omega) (by omega) (by omega) hwv hwp (by omega) (w ?_);subst hcs;simp only[Ix,HJ,HK,Vr,la,AC.L,AC.R,AE,AG,AL,AA 26 12,AA 26 14,AA 26 16,AA 26 18,AA 26 20,AA 26 22,AA 26 27,AA 26 34];simp;simp only[AU,AA 26 35];simp;refine Aa ?_;simp[BA 26 2,AE,AG,AL,AA 26 36,DH,z26,AJ]
  ·exact T26.of hw (λc hc=>hwc c (by simpa using hc)) (by simp;omega) (by omega) (by omega) hwv hwp (by omega) (v26 h1 h2 h3 a h b hcs hn hv)
 ·refine T26.of hw (cs2:=cs++cs) (vs2:=vs++vs) (ps2:=ps) (λc hc=>hwc c (by simpa using hc)) (by simp;omega) (by simp;omega) (by omega) (λx hx=>hwv x (by simpa using hx)) hwp (by omega) (w ?_);have r1:AK (cs.length+cs.length) 8=true:=by simp[AK];omega
  have r2:AK (vs.length+vs.length) 24=true:=by simp[AK];omega
  exact ou b r1 r2
end
end Go.Va
