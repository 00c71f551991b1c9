/- Laws that ExtractAnswers leans on, part 13. No condition of its own. -/
import Derived.Test.YtopldfpkgbkomaaGreatDoorL09
set_option linter.all false
set_option maxRecDepth 100000
set_option maxHeartbeats 4000000
noncomputable section
namespace Go.Va
open Go.Proofs
section
theorem OM {n m:Nat} (h:n≤m):∀ds:List D,D.lts n ds=true→D.lts m ds=true
 |[],_=>rfl
 |d::ds,hd=>by
  simp only[D.lts,oJ]at hd ⊢;exact⟨Eb h d hd.1,OM h ds hd.2⟩
variable {m n:Nat}
theorem Iv (h:n≤m):∀row:Row,Row.low n row=true→Row.low m row=true:=by
 intro row hr;cases row with
 |cells ds=>exact OM h ds hr
 |map=>rfl
 |dead=>rfl
 |obj=>simp[Row.low]at hr
variable {lw r:Nat} {h:List Row}
theorem RJ {x:List Int} {lf:Int} {a b:Row} (hl:Low h) (ha:Row.low 0 a=true) (hb:Row.low 0 b=true):Low (Bc h r lw x lf a b):=by
 intro row hrow;rw[JT];unfold Bc at hrow;rcases oc.1 hrow with hm|hm
 ·rcases pk hm with hm|rfl
  ·rcases pk hm with hm|rfl
   ·exact Iv (by omega) row (hl row hm)
   ·rfl
  ·rfl
 ·simp only[oO,o7,or_false]at hm;rcases hm with rfl|rfl
  ·exact Iv (by omega) _ ha
  ·exact Iv (by omega) _ hb
def UM (f:F):Prop:=∀(h:List Row) (r lw:Nat) (left:Int) (rest:List Int),r <h.length→lw <h.length→r≠lw→Low h→f.size≤left→left≤96→(BS f++rest).length≤2^43→
 h[r]?=some (Cu (BS f++rest))→h[lw]?=some (.cells [.v (.int .i64 left)])→FX 320 [.ref r 0,.ref lw 0] h [.v f.V] ((h.set r (Cu rest)).set lw (.cells [.v (.int .i64 (left-f.size))]))
variable {Q:AExit→St→Prop}
theorem cK (hr:r <h.length) (hl:lw <h.length) (hne:r≠lw) (hlow:Low h) (X:F) (hX:UM X) (rest:List Int) (hb:(BS X++rest).length≤2^43) (lf:Int) (hlf:X.size≤lf) (h96:lf≤96) (a:Row) (ha:Row.low 0 a=true)
  (op m:Int) (ins:List Ivl) (kids:List F) (n:Nat) (hn:n≤96) (hk:kids.length <n)
  (hQ:Q .normal ⟨[(0,.ref r 0),(1,.ref lw 0),(4,.ref h.length 0),(5,.ref (h.length+1) 0),(9,.v (.int .i64 n)),(10,.v (.int .i64 (kids.length+1)))],Bc h r lw rest (lf-X.size) a (rB op m ins (kids++[X]))⟩):
  awp Tryz.prog Ah (lG 320 1) Q ⟨[(0,.ref r 0),(1,.ref lw 0),(4,.ref h.length 0),(5,.ref (h.length+1) 0),(9,.v (.int .i64 n)),(10,.v (.int .i64 kids.length))],Bc h r lw (BS X++rest) lf a (rB op m ins kids)⟩:=by
 have hpos:=X.size_pos;have h0:0≤lf:=by omega
 have w1:IntKind.i64.wrap ((kids.length:Int)+1)=kids.length+1:=AL;have hroom:AU (kids.length+1) 64=true:=by simp[AU];omega
 have key:∀b,Row.low 0 b=true→FX 320 [.ref r 0,.ref lw 0] (Bc h r lw (BS X++rest) lf a b) [.v X.V] (Bc h r lw rest (lf-X.size) a b):=by
  intro b hb';have:=hX (Bc h r lw (BS X++rest) lf a b) r lw lf rest (by rw[JT];omega) (by rw[JT];omega) hne (RJ hlow ha hb') hlf h96 hb (KY hr hne _ _ _ _) (KZ hl _ _ _ _);rw[Ih hr hne,SV hl]at this;exact this
 simp only[Zw,A8 320 1,AA 320 16];simp[hk,h0,KZ hl,AD];rw[Bf];refine Bg _ (λs hs=>⟨s,.inl rfl,hs⟩) ?_;simp only[AA 320 18];simp[Hf,rB,Ii];obtain⟨cs,hcs,hcl⟩:∃cs,X.V= .agg cs∧cs.length=4:=by
  cases X;exact⟨_,F.V_eq _ _ _ _,rfl⟩
 have fin:Q .normal ⟨[(0,.ref r 0),(1,.ref lw 0),(4,.ref h.length 0),(5,.ref (h.length+1) 0),(9,.v (.int .i64 n)),(10,.v (.int .i64 (kids.length+1)))],Bc h r lw rest (lf-X.size) a (.cells [.v (.int .i64 op),.v (.int .i64 m),.own 368 8 (ins.map Ivl.V),.own 84 4 (kids.map F.V++[.agg cs])])⟩:=by
  have:=hQ;simpa[rB,hcs]using this
 constructor
 ·refine⟨_,_,key _ rfl,?_⟩;simp[hcs,hcl,hroom,Hf,Ii];simp only[AA 320 17];simp[w1];exact fin
 ·refine⟨_,_,key _ rfl,?_⟩;simp[hcs,hcl,hroom,Hf,Ii];simp only[AA 320 17];simp[w1];exact fin
theorem YS (hr:r <h.length) (hl:lw <h.length) (hne:r≠lw) (hlow:Low h) (rest:List Int) (a:Row) (ha:Row.low 0 a=true) (op m:Int) (ins:List Ivl):∀(todo kids:List F) (lf:Int),(∀x∈todo,UM x)→(kids++todo).length≤96→
  (todo.map F.size).sum≤lf→lf≤96→(todo.flatMap BS++rest).length≤2^43→
  awp Tryz.prog Ah (.loop (lG 320 1)) (λe s=>e= .exit 2∧s=⟨[(0,.ref r 0),(1,.ref lw 0),(4,.ref h.length 0),(5,.ref (h.length+1) 0),(9,.v (.int .i64 (kids++todo).length)),(10,.v (.int .i64 (kids++todo).length)),(110,.v (.bool false))],Bc h r lw rest (lf-(todo.map F.size).sum) a (rB op m ins (kids++todo))⟩)
   ⟨[(0,.ref r 0),(1,.ref lw 0),(4,.ref h.length 0),(5,.ref (h.length+1) 0),(9,.v (.int .i64 (kids++todo).length)),(10,.v (.int .i64 kids.length))],Bc h r lw (todo.flatMap BS++rest) lf a (rB op m ins kids)⟩:=by
 intro todo;induction todo with
 |nil=>
  intro kids lf _ hn hs h96 hb;refine As ?_;simp only[Zw,A8 320 1,AA 320 16];simp[AJ]
 |cons x todo ih=>
  intro kids lf hx hn hs h96 hb;simp only[oV,qL]at hs;have h2:=ih (kids++[x]) (lf-x.size) (λy hy=>hx y (by simp[hy])) (by simpa using hn) (by omega) (by omega) (by simp at hb ⊢;omega);simp only[oR,sX]at h2;have e1:lf-x.size-((todo.map F.size).sum:Nat)=lf-(((x::todo).map F.size).sum:Nat):=by simp;omega
  rw[e1]at h2;refine Bl (s1:=⟨[(0,.ref r 0),(1,.ref lw 0),(4,.ref h.length 0),(5,.ref (h.length+1) 0),(9,.v (.int .i64 (kids++x::todo).length)),(10,.v (.int .i64 (kids++[x]).length))],Bc h r lw (todo.flatMap BS++rest) (lf-x.size) a (rB op m ins (kids++[x]))⟩) ?_ h2;have:=cK (Q:=λe s'=>match e with| .normal=>s'=⟨[(0,.ref r 0),(1,.ref lw 0),(4,.ref h.length 0),(5,.ref (h.length+1) 0),(9,.v (.int .i64 (kids++x::todo).length)),(10,.v (.int .i64 (kids++[x]).length))],Bc h r lw (todo.flatMap BS++rest) (lf-x.size) a (rB op m ins (kids++[x]))⟩|e=>False)
   hr hl hne hlow x (hx x (by simp)) (todo.flatMap BS++rest) (by simp at hb ⊢;omega) lf (by omega) h96 a ha op m ins kids (kids++x::todo).length hn (by simp) (by simp)
  simp at this ⊢;refine Ad _ (λe s hh=>?_) this;cases e with
  |normal=>exact hh
  |ret=>exact hh.elim
  |exit=>exact hh.elim
def F.rd (f:F):Prop:=∀g∈f.nodes,g.ok1∧g.ins.length≤32
theorem F.rd_kid {op n:Int} {ins:List Ivl} {kids:List F} (h:(F.mk op n ins kids).rd) {k:F} (hk:k∈kids):k.rd:=λg hg=>h g (by
 rw[F.nodes_eq];exact qZ _ (pP.2 ⟨k,hk,hg⟩))
theorem VU (op n:Int) (ins:List Ivl) (kids:List F):BS (.mk op n ins kids)=Cd (.mk op n ins kids)++kids.flatMap BS:=by
 unfold BS;rw[F.nodes_eq,oZ,List.flatMap_assoc]
theorem ST {x:Row} (hr:h[r]?=some x):h.set r x=h:=by
 apply pe;intro i;rw[pU];split
 ·rename_i hi;subst hi;have hl:=(oM.1 hr).1;rw[if_pos hl,hr]
 ·rfl
def Gy (h:List Row) (r lw:Nat) (x:List Int) (lf:Int) (a:Row):List Row:=(h.set r (Cu x)).set lw (.cells [.v (.int .i64 lf)])++[a]
theorem QM (hr:r <h.length) (hne:r≠lw) (x:List Int) (lf:Int) (a:Row):(Gy h r lw x lf a)[r]?=some (Cu x):=by
 unfold Gy;rw[ov (by simpa using hr),ot (Ne.symm hne),pF (by simpa using hr)]
theorem Ny (hr:r <h.length) (hne:r≠lw) (x y:List Int) (lf:Int) (a:Row):(Gy h r lw x lf a).set r (Cu y)=Gy h r lw y lf a:=by
 unfold Gy;rw[rF _ _ (by simpa using hr),List.set_comm _ _ (Ne.symm hne),qc]
theorem Q7 (x:List Int) (lf:Int) (a:Row):(Gy h r lw x lf a).length=h.length+1:=by simp[Gy]
theorem Q8 (x:List Int) (lf:Int) (a b:Row):Gy h r lw x lf a++[b]=Bc h r lw x lf a b:=by simp[Gy,Bc]
theorem SU (hne:r≠lw) (hl:lw <h.length) {x:List Int} (hr:h[r]?=some (Cu x)) (lf:Int) (a:Row):(h++[a]).set lw (.cells [.v (.int .i64 lf)])=Gy h r lw x lf a:=by
 unfold Gy;rw[rF _ _ hl,ST hr]
theorem Se:∀f:F,f.rd→UM f:=by
 refine F.ind λop n ins kids ih hrd=>?_;intro h r lw left rest hr hl hne hlow hsz h96 hb hhr hhl;obtain⟨⟨o1,o2,o3,o4⟩,hi32⟩:=hrd (.mk op n ins kids) (by rw[F.nodes_eq];simp);simp only[F.op,F.n,F.ins]at o1 o2 o3 hi32;rw[VU]at hb hhr;have hse:=F.size_eq op n ins kids;have hkl:=F.kids_len kids;have hA:Row.low 0 (.cells [.v (.int .i64 0),.v (.int .i64 0),.own 368 8 [],.own 84 4 []])=true:=rfl;have g1:=AV [.cells [.v (.int .i64 0),.v (.int .i64 0),.own 368 8 [],.own 84 4 []]] hhl;have w1:IntKind.i64.wrap (left-1)=left-1:=AL;have hm:=SU hne hl hhr (left-1) (.cells [.v (.int .i64 0),.v (.int .i64 0),.own 368 8 [],.own 84 4 []]);generalize hAA:Row.cells [.v (.int .i64 0),.v (.int .i64 0),.own 368 8 [],.own 84 4 []]=A at hA g1 hm;have hE:Cd (.mk op n ins kids)++kids.flatMap BS++rest=AZ op++(AZ n++(AZ ins.length++(ins.flatMap Bv++(AZ kids.length++(kids.flatMap BS++rest))))):=by simp[Cd,F.op,F.n,F.ins,F.kids]
 rw[hE]at hm hb;refine Ak (D4 320) rfl (by simp) (by
  intro row hrow;simp only[qB];rcases pk hrow with hm|rfl
  ·rcases pk hm with hm|rfl
   ·exact hlow row hm
   ·rfl
  ·rfl) (by simp[D.lt]) ?_
 simp only[Zw,Ai 320,AA 320 0,AA 320 1,AQ];simp[hAA,g1,w1,AO,hm];simp only[AA 320 2];simp;refine⟨_,_,(Ls op o1 _ r _ (QM hr hne _ _ _)),?_⟩;rw[Ny hr hne];simp;refine⟨_,_,(Ls n o2 _ r _ (QM hr hne _ _ _)),?_⟩;rw[Ny hr hne];have hB:Row.cells [.v (.int .i64 op),.v (.int .i64 n),.own 368 8 [],.own 84 4 []]=rB op n [] []:=rfl;simp[AO,Q7,Q8];simp only[AA 320 3];simp;refine⟨_,_,(Ls ins.length (by unfold i64;omega) _ r _ (KY hr hne _ _ _ _)),?_⟩;rw[Ih hr hne];simp only[AA 320 4];simp;have hI:=YT hr hl hne (AZ kids.length++(kids.flatMap BS++rest)) (left-1) (by omega) A op n ins [] o3 (by simpa using hi32) (by simp at hb ⊢;omega);simp at hI;refine EO hI ?_;simp only[AA 320 12];simp;refine⟨_,_,(Ls kids.length (by unfold i64;omega) _ r _ (KY hr hne _ _ _ _)),?_⟩;rw[Ih hr hne];have k1:¬(left-1 <(kids.length:Int)):=by omega
 have k2:¬((kids.length:Int) <0):=by omega
 simp only[AA 320 13];simp[Hf,KZ hl,rB,k1,k2,AD];simp only[AA 320 15];simp;have hK:=YS hr hl hne hlow rest A hA op n ins kids [] (left-1) (λx hx=>ih x hx (F.rd_kid hrd hx)) (by simp;omega) (by omega) (by omega) (by simp at hb ⊢;omega);simp[rB]at hK;refine EO hK ?_;subst hAA;simp only[AA 320 19];simp[Ud,Hf,SW,AO,AW 320,F.V_eq,AB,D.one?,D.vs?,D.v?];rw[show left-1-((kids.map F.size).sum:Nat)=left-((F.mk op n ins kids).size:Nat) by omega];exact⟨_,rfl⟩
end
theorem Zk (xs:List Int) (hb:xs.length≤2^45):PX 283 [AH .u8 xs,AH .u8 xs] [.bool true]:=by
 refine BJ 283 ?_;simp only[Zw,Ai 283,AA 283 0,AA 283 1,AX];simp[AH,AD];simp only[AA 283 3];simp;refine AN xs.length (λk=>⟨[(0,.v (AH .u8 xs)),(1,.v (AH .u8 xs)),(12,.v (.int .i64 xs.length)),(13,.v (.int .i64 k))],[]⟩) (by simp[AH]) ?_;intro k hk;simp only[Zw,A8 283 0,AA 283 4];simp[AH];by_cases h1:k <xs.length
 ·have hx:xs[k]?=some xs[k]:=oI h1;have hw:=Bb k;rw[if_pos (by omega),AD];simp only[AA 283 5];simp only[AS,AA 283 6];simp[hx,AD];simp only[AA 283 8];simp[hw,h1]
 ·have:k=xs.length:=by omega
  subst this;rw[if_neg (by omega),AJ];simp[AB,AA 283 9,AW 283]
theorem gB (f:F) (hok:f.ok) (hrd:f.rd) (h96:f.size≤96) (hE:BR f=0) (hb:(BS f).length≤2^43):PX 282 [AH .u8 (BS f)] [f.V,.int .i64 0]:=by
 refine BJ 282 ?_;have q1:=(Zx f hok hb).fsp;rw[if_pos hE,hE]at q1;have q2:=(Zk (BS f) (by omega)).fsp;simp at q1 q2;simp only[Ai 282,AE,AF,AK,AA 282 0,AA 282 1,AX];simp;refine⟨_,_,(eo (BS f) (by omega) _),?_⟩;simp only[AA 282 2];simp[AO];simp only[AA 282 3];simp;have hR:=Se f hrd [.cells [.v (.int .i64 0),.v (.int .i64 0),.own 368 8 [],.own 84 4 []],Cu (BS f),.cells [.v (.int .i64 96)]] 1 2 96 [] (by simp) (by simp) (by decide) (by
  intro row hrow;simp only[oO,o7,or_false]at hrow;rcases hrow with rfl|rfl|rfl<;>rfl) (by omega) (by omega) (by simpa using hb) (by simp) (by simp)
 simp at hR;obtain⟨c0,c1,c2,c3,hV⟩:∃a b c d,f.V= .agg [a,b,c,d]:=by
  cases f;exact⟨_,_,_,_,F.V_eq _ _ _ _⟩
 rw[hV]at hR q1;refine⟨_,_,hR,?_⟩;have k1:¬(96-(f.size:Int) <0):=by omega
 simp[AO,D.toRow];simp only[AA 282 4];have hend:=XZ [Row.cells [.v (.int .i64 0),.v (.int .i64 0),.own 368 8 [],.own 84 4 []],Cu [],.cells [.v (.int .i64 (96-(f.size:Int)))],.cells [.v c0,.v c1,.v c2,.v c3]] 1 rfl;simp[k1];refine⟨_,_,hend,?_⟩;simp[AD];simp only[AA 282 6];simp[D.vs?,D.v?];refine⟨_,_,q1 _,?_⟩;simp only[AA 282 7];simp;refine⟨_,_,q2 _,?_⟩;simp;simp only[AA 282 9];simp[AO,D.toRow,D.vs?,D.v?,hV,AB,AW 282,CR]
theorem MI {l:List Ivl} (h:GX l=0):l.length≤32:=by
 unfold GX at h;split at h
 ·cases h
 ·split at h
  ·cases h
  ·omega
theorem Ps {f:F} (h:BR f=0):f.size≤96:=by
 unfold BR at h;split at h
 ·cases h
 ·omega
theorem TQ {f:F} (hok:f.ok) (h:BR f=0):f.rd:=by
 intro g hg;refine⟨hok.1 g hg,?_⟩;unfold BR at h;split at h
 ·cases h
 ·split at h
  ·rename_i ha;have:=oY.1 ha g hg;unfold Az at this;split at this
   ·cases this
   ·rename_i hn;by_cases h2:g.op=2
    ·simp[h2]at this;exact MI this.2.2.2
    ·have:¬0 <g.ins.length:=λhh=>hn (.inl ⟨h2,hh⟩);omega
  ·cases h
theorem NZ {l:List Clm} {c:Clm} (hc:c∈l):(BS c.body).length≤(BB l).length:=by
 unfold BB;have:(BL c).length≤(l.flatMap BL).length:=by
  induction l with
  |nil=>cases hc
  |cons x l ih=>
   simp only[oZ,oL];rcases oO.1 hc with rfl|hc
   ·omega
   ·have:=ih hc;omega
 simp only[BL,BE,oL]at this ⊢;omega
theorem ib (l:List Clm) (hl:∀c∈l,c.ok) (hz:CD l=0) (hn:l.length≤32) (hb:(BB l).length≤2^39):PX 205 [AH .u8 (BB l)] [.list (l.map Clm.V),.int .i64 0]:=by
 refine BJ 205 ?_;have q1:=(aI l hl (by omega) hb).fsp;rw[if_pos hz,hz]at q1;have q2:=(Zk (BB l) (by omega)).fsp;simp at q1 q2;have hall:=Mg hz;have hlen:∀c∈l,(BS c.body).length≤2^39:=λc hc=>pA (NZ hc) hb;simp only[Zw,Ai 205,AA 205 0,AA 205 1,AX];simp;refine⟨_,_,(eo (BB l) (by omega) _),?_⟩;simp only[AA 205 2];simp;refine⟨_,_,(Ls l.length (by unfold i64;omega) _ 0 (l.flatMap BL) rfl),?_⟩;simp only[AA 205 3];simp;simp only[AA 205 4];simp;refine AY l.length (λk s=>s.e=[(0,.v (AH .u8 (BB l))),(4,.ref 0 0),(5,.v (.int .i64 l.length)),(6,.own 130 5 ((l.take k).map Clm.V)),(7,.v (.int .i64 k))]∧∃J,s.h=Cu ((l.drop k).flatMap BL)::J) ⟨rfl,[],by simp⟩ ?_;rintro k ⟨se,sh⟩ hk ⟨he,J,hJ⟩;simp only at he hJ;subst he;subst hJ;have hk32:(l.length:Int)≤32:=by omega
 simp only[Zw,A8 205 0,AA 205 5];by_cases h1:k <l.length
 ·have hd:l.drop k=l[k]::l.drop (k+1):=qR h1;have hc:=hl _ (pR h1);have hcl:=hlen _ (pR h1);have hf0:=hall _ (pR h1);obtain⟨c,hcc⟩:∃c,c=l[k]:=⟨_,rfl⟩;rw[←hcc]at hd hc hcl hf0;simp[h1,hk32,AD];simp only[AA 205 7];simp;obtain⟨R,hR⟩:∃R,R=(l.drop (k+1)).flatMap BL:=⟨_,rfl⟩;have hX:(A6 c.refs++(BE (BS c.body)++R)).length≤2^39:=by
   have e1:l.flatMap BL=(l.take k).flatMap BL++(A6 c.refs++(BE (BS c.body)++R)):=by
    conv=>lhs;rw[←pQ k l,pm,hd,oZ,←hR]
    simp[BL]
   unfold BB at hb;rw[e1]at hb;simp only[oL]at hb ⊢;omega
  have hg:=Eu c.refs;simp only[A6,BE,oL]at hX;have hXd:(l.drop k).flatMap BL=A6 c.refs++(BE (BS c.body)++R):=by rw[hd,oZ,←hR];simp[BL]
  rw[hXd,←hR];refine⟨_,_,(Xa c.refs hc.1 _ 0 (BE (BS c.body)++R) (by simp only[BE,oL];omega) rfl),?_⟩;simp[AO,D.toRow];simp only[AA 205 8];simp;refine⟨_,_,(aN (BS c.body) _ 0 R (by omega) rfl),?_⟩;have hD:=(gB c.body hc.2.2 (TQ hc.2.2 hf0) (Ps hf0) hf0 (by omega)).fsp;rw[F.V_flds]at hD;simp[AH]at hD;simp;refine⟨_,_,hD _,?_⟩;simp[AO,D.toRow];simp only[AA 205 9];simp;simp only[AA 205 11];simp[AO,D.toRow];have hroom:AU (k+1) 88=true:=by simp[AU];omega
  have hmin:min k l.length=k:=by omega
  have htk:(l.map Clm.V).take (k+1)=(l.map Clm.V).take k++[Clm.V c]:=by
   rw[←o8,←o8,pX h1,oh,hcc];rfl
  have hw:=Bb k;simp only[AA 205 12];simp[D.vs?,D.v?,hroom,hmin,htk];simp only[AA 205 6];simp[hw,Clm.V,AH]
 ·have:k=l.length:=by omega
  subst this;simp[AJ];simp only[AA 205 13];simp;have hend:=XZ (Cu []::J) 0 rfl;refine⟨_,_,hend,?_⟩;simp[AD];simp only[AA 205 15];simp;refine⟨_,_,q1 _,?_⟩;simp;simp only[AA 205 16];simp;refine⟨_,_,q2 _,?_⟩;simp;simp only[AA 205 18];simp[AB,AW 205,CR]
section
abbrev lo (f k:Nat) {x:(Nat→Int)→(Nat→Int)→List GI} (_h:(λI J=>Oc PG Ah HE f I J k)=x:=by conv=>lhs;reduce):List GI:=x (λn=> @OfNat.ofNat Int n _) (λn=> -@OfNat.ofNat Int n _)
variable {e:CB} {bn:List Nat}
theorem EnvD.pushW {ns cs:List (Option Nat)} {vs bv:Nat→D} {d:Nat→Bool} (hE:EnvD ns cs bn vs bv d e) (hok:Ux ns bn=true) (i k j m:Nat) {v w:D} (hi:ns[i]?=some (some k)) (hv:vs i=v) (hj:cs[j]?=some (some i)) (hm:ns[j]?=some (some m)):
  EnvD ns cs bn vs bv (Cc d i) ((k,v)::(m,w)::e):=by
 refine hE.step hok i (λk' hk'=>?_) (λk' hk' hc=>?_)
 ·rw[hi]at hk';simp only[oH]at hk';subst hk';show (if k=k then v else _)=vs i;rw[if_pos rfl,hv]
 ·show (if k=k' then v else if m=k' then w else AG e k')=AG e k';rw[if_neg (λh=>hk' (by rw[hi,h])),if_neg (λh=>hc j hj (by rw[hm,h]))]
def SM:AT:=match ll 113 0 with| .seq _ (.seq _ (.seq (.block _ (.regA _ _ _ t)) _))=>t|_=> .done
def Tm:List (List Nat):=match ll 113 0 with| .seq _ (.seq _ (.seq (.block _ (.regA _ _ c _)) _))=>c|_=>[]
theorem Ro:(lG 113 0)= .seq (.reg (oG 113 9) [1,2,4,5,6,33,34,35]) (.seq (.cond (.t 35 false) .skip (.exit 0)) (.seq (.block 1 (.regA (oG 113 10) [1,2,4,5,6,33,34] Tm SM)) (.reg (oG 113 11) [1,2,4,5,6,33,34]))):=(A8 113 0 :)
def Kl:List GI:=lo 113 10
theorem VY:oG 113 10=Kl:=(AA 113 10 :)
theorem Q5:SM.chk Kl Tm (List.range 16)=true:=by kernel_rfl
def LF:List (Option Nat):=[some 36,some 37,some 38,some 39,some 40,some 41,some 42,some 43,some 44,some 45,some 46,some 47,some 48,some 49,some 50,none]
def DJ:List (Option Nat):=[none,some 13,none,none,none,none,none,none,none,none,none,none,none,some 15,none,none]
def Fg:List Nat:=[1,2,4,5,6,33,34]
theorem EH:Ux LF Fg=true:=by kernel_rfl
def SB (x:Dat) (ds:List V) (j:Nat):D:=
 match j with
 |0|14=> .ref 4 4
 |1=> .own 88 4 ds
 |2|4|7|9=> .ref 2 0
 |3=> .v (.int .i64 x.cl)
 |5=> .v (.int .i64 x.ix)
 |6=> .agg [.v (.int .i64 x.cl),.v (.int .i64 x.ix)]
 |8=> .v (.int .i64 x.day)
 |10=> .v (.int .i64 x.file)
 |11=> .agg [.v (.int .i64 x.cl),.v (.int .i64 x.ix),.v (.int .i64 x.day),.v (.int .i64 x.file)]
 |12=> .own 88 4 [x.V]
 |13=> .own 88 4 (ds++[x.V])
 |_=> .any
def CG (d:Nat→Bool):Nat:=if d 10 then 4 else if d 8 then 3 else if d 5 then 2 else if d 3 then 1 else 0
def Cx (x:Dat) (rest:List Int):Nat→List Int
 |0=>AZ x.cl++(AZ x.ix++(AZ x.day++(AZ x.file++rest)))
 |1=>AZ x.ix++(AZ x.day++(AZ x.file++rest))
 |2=>AZ x.day++(AZ x.file++rest)
 |3=>AZ x.file++rest
 |_=>rest
def CM (x:Dat) (ds:List V) (d:Nat→Bool):D:=if d 15 then .own 88 4 (ds++[x.V]) else if d 1 then .v (.list ds) else .own 88 4 ds
def At (C0 C1:Row) (f st fo cl bad ow li:D) (x:Dat) (rest:List Int) (ds:List V) (d:Nat→Bool):List Row:=
 [C0,C1,Cu (Cx x rest (CG d)),.cells [.ref 2 0],.cells [f,st,fo,cl,CM x ds d,bad,ow,li]]
def Mj (n k:Int) (j:Nat):D:=
 match j with
 |1=> .ref 0 0
 |2=> .ref 1 0
 |4=> .ref 3 0
 |5=> .func 204 [.ref 3 0,.ref 0 0]
 |6=> .ref 4 0
 |33=> .v (.int .i64 n)
 |34=> .v (.int .i64 k)
 |_=> .any
variable {K:St→Prop}
theorem bw (C0 C1:Row) (f st fo cl bad ow li:D) (x:Dat) (hx:x.ok) (rest:List Int) (ds:List V) (hds:ds.length≤2^30) (n k:Int)
  (hK:∀e,(∀k'∈Fg,AG e k'=Mj n k k')→K ⟨e,At C0 C1 f st fo cl bad ow li x rest ds (λ_=>true)⟩) (se:CB) (hse:∀k'∈Fg,AG se k'=Mj n k k'):
  SM.ok Tryz.prog Ah (oG 113 10) K ⟨se,At C0 C1 f st fo cl bad ow li x rest ds (λj=>decide (16≤j))⟩:=by
 rw[VY];refine JI (λd s=>EnvD LF DJ Fg (SB x ds) (Mj n k) d s.e∧s.h=At C0 C1 f st fo cl bad ow li x rest ds d) Q5 ?_ ?_ ?_
 ·rintro d i ⟨e,h⟩ hi hdi hdep hup ⟨hE,hh⟩;simp only at hE hh;subst hh;have b4:AG e 4= .ref 3 0:=hE.2 4 (by simp[Fg]);have b6:AG e 6= .ref 4 0:=hE.2 6 (by simp[Fg]);have ld:∀(i k':Nat),(i=2∧k'=38∨i=4∧k'=40∨i=7∧k'=43∨i=9∧k'=45)→d i=false→Kl.getD i default=⟨none,.p k' (.load (.t 4 false) 1 false)⟩→∃s1,BQ Tryz.prog Ah (Kl.getD i default) ⟨e,At C0 C1 f st fo cl bad ow li x rest ds d⟩ s1∧EnvD LF DJ Fg (SB x ds) (Mj n k) (Cc d i) s1.e∧s1.h=At C0 C1 f st fo cl bad ow li x rest ds (Cc d i):=by
   intro i k' hik hdi hx;refine⟨⟨(k',.ref 2 0)::e,_⟩,BO hx (by simp[PI.val,Opd.ev,b4,At,D.part,D.copy]),hE.push EH i k' ?_ ?_,?_⟩
   ·rcases hik with ⟨rfl,rfl⟩|⟨rfl,rfl⟩|⟨rfl,rfl⟩|⟨rfl,rfl⟩<;>rfl
   ·rcases hik with ⟨rfl,rfl⟩|⟨rfl,rfl⟩|⟨rfl,rfl⟩|⟨rfl,rfl⟩<;>rfl
   ·rcases hik with ⟨rfl,rfl⟩|⟨rfl,rfl⟩|⟨rfl,rfl⟩|⟨rfl,rfl⟩<;>simp[At,CG,CM,Cc]
  match i,hi with
  |0,_=>
   exact⟨_,BO (v:= .ref 4 4) rfl (by simp[PI.val,Opd.ev,b6]),hE.push EH 0 36 rfl rfl,by simp[At,CG,CM,Cc]⟩
  |1,_=>
   have v0:AG e 36= .ref 4 4:=hE.1 0 36 rfl (hdep 0 (by decide)) (by intro c hc;simp[DJ]at hc);have d15:d 15=false:=hup 15 (by decide) (by decide);refine⟨_,CX (s1:=⟨(37,.own 88 4 ds)::e,At C0 C1 f st fo cl bad ow li x rest ds (Cc d 1)⟩) rfl ?_,hE.push EH 1 37 rfl rfl,rfl⟩;simp[AI.step,Opd.ev,v0,At,CM,d15,hdi,Cc,CG]
  |2,_=>exact ld 2 38 (by decide) hdi rfl
  |4,_=>exact ld 4 40 (by decide) hdi rfl
  |7,_=>exact ld 7 43 (by decide) hdi rfl
  |9,_=>exact ld 9 45 (by decide) hdi rfl
  |3,_=>
   have v2:AG e 38= .ref 2 0:=hE.1 2 38 rfl (hdep 2 (by decide)) (by intro c hc;simp[DJ]at hc);have d5:d 5=false:=hup 5 (by decide) (by decide);have d8:d 8=false:=hup 8 (by decide) (by decide);have d10:d 10=false:=hup 10 (by decide) (by decide);have hF:=Ls x.cl hx.1 (At C0 C1 f st fo cl bad ow li x rest ds d) 2 (AZ x.ix++(AZ x.day++(AZ x.file++rest))) (by simp[At,Cx,CG,hdi,d5,d8,d10]);exact⟨_,CZ (k:=39) (r:= .v (.int .i64 x.cl)) rfl (by simpa[Av,D.arg,Opd.ev,v2]using hF),hE.push EH 3 39 rfl rfl,by simp[At,Cx,CG,CM,Cc,hdi,d5,d8,d10]⟩
  |5,_=>
   have v4:AG e 40= .ref 2 0:=hE.1 4 40 rfl (hdep 4 (by decide)) (by intro c hc;simp[DJ]at hc);have d8:d 8=false:=hup 8 (by decide) (by decide);have d10:d 10=false:=hup 10 (by decide) (by decide);have d3:d 3=true:=hdep 3 (by decide);have hF:=Ls x.ix hx.2.1 (At C0 C1 f st fo cl bad ow li x rest ds d) 2 (AZ x.day++(AZ x.file++rest)) (by simp[At,Cx,CG,hdi,d8,d10,d3]);exact⟨_,CZ (k:=41) (r:= .v (.int .i64 x.ix)) rfl (by simpa[Av,D.arg,Opd.ev,v4]using hF),hE.push EH 5 41 rfl rfl,by simp[At,Cx,CG,CM,Cc,hdi,d8,d10,d3]⟩
  |8,_=>
   have v7:AG e 43= .ref 2 0:=hE.1 7 43 rfl (hdep 7 (by decide)) (by intro c hc;simp[DJ]at hc);have d10:d 10=false:=hup 10 (by decide) (by decide);have d3:d 3=true:=hdep 3 (by decide);have d5:d 5=true:=hdep 5 (by decide);have hF:=Ls x.day hx.2.2.1 (At C0 C1 f st fo cl bad ow li x rest ds d) 2 (AZ x.file++rest) (by simp[At,Cx,CG,hdi,d10,d5]);exact⟨_,CZ (k:=44) (r:= .v (.int .i64 x.day)) rfl (by simpa[Av,D.arg,Opd.ev,v7]using hF),hE.push EH 8 44 rfl rfl,by simp[At,Cx,CG,CM,Cc,hdi,d10,d5]⟩
  |10,_=>
   have v9:AG e 45= .ref 2 0:=hE.1 9 45 rfl (hdep 9 (by decide)) (by intro c hc;simp[DJ]at hc);have d3:d 3=true:=hdep 3 (by decide);have d5:d 5=true:=hdep 5 (by decide);have d8:d 8=true:=hdep 8 (by decide);have hF:=Ls x.file hx.2.2.2 (At C0 C1 f st fo cl bad ow li x rest ds d) 2 (rest) (by simp[At,Cx,CG,hdi,d8]);exact⟨_,CZ (k:=46) (r:= .v (.int .i64 x.file)) rfl (by simpa[Av,D.arg,Opd.ev,v9]using hF),hE.push EH 10 46 rfl rfl,by simp[At,Cx,CG,CM,Cc,hdi,d8]⟩
  |6,_=>
   have v3:AG e 39= .v (.int .i64 x.cl):=hE.1 3 39 rfl (hdep 3 (by decide)) (by intro c hc;simp[DJ]at hc);have v5:AG e 41= .v (.int .i64 x.ix):=hE.1 5 41 rfl (hdep 5 (by decide)) (by intro c hc;simp[DJ]at hc);exact⟨_,BO (v:= .agg [.v (.int .i64 x.cl),.v (.int .i64 x.ix)]) rfl (by simp[PI.val,FE,Opd.ev,v3,v5,D.cells?,D.copy,AO]),hE.push EH 6 42 rfl rfl,by simp[At,CG,CM,Cc]⟩
  |11,_=>
   have v6:AG e 42= .agg [.v (.int .i64 x.cl),.v (.int .i64 x.ix)]:=hE.1 6 42 rfl (hdep 6 (by decide)) (by intro c hc;simp[DJ]at hc);have v8:AG e 44= .v (.int .i64 x.day):=hE.1 8 44 rfl (hdep 8 (by decide)) (by intro c hc;simp[DJ]at hc);have v10:AG e 46= .v (.int .i64 x.file):=hE.1 10 46 rfl (hdep 10 (by decide)) (by intro c hc;simp[DJ]at hc);exact⟨_,BO (v:= .agg [.v (.int .i64 x.cl),.v (.int .i64 x.ix),.v (.int .i64 x.day),.v (.int .i64 x.file)]) rfl (by simp[PI.val,FE,Opd.ev,v6,v8,v10,D.cells?,D.copy,AO]),hE.push EH 11 47 rfl rfl,by simp[At,CG,CM,Cc]⟩
  |12,_=>
   have v11:AG e 47= .agg [.v (.int .i64 x.cl),.v (.int .i64 x.ix),.v (.int .i64 x.day),.v (.int .i64 x.file)]:=hE.1 11 47 rfl (hdep 11 (by decide)) (by intro c hc;simp[DJ]at hc);refine⟨_,CX (s1:=⟨(48,.own 88 4 [x.V])::e,At C0 C1 f st fo cl bad ow li x rest ds d⟩) rfl ?_,hE.push EH 12 48 rfl rfl,?_⟩
   ·simp[AI.step,IE,D.toV,Opd.ev,v11,Dat.V,D.vs?,D.v?,D.copy,V.cells]
   ·simp[At,CG,CM,Cc]
  |13,_=>
   have v1:AG e 37= .own 88 4 ds:=hE.1 1 37 rfl (hdep 1 (by decide)) (by intro c hc;simp[DJ]at hc;subst hc;exact hdi);have v12:AG e 48= .own 88 4 [x.V]:=hE.1 12 48 rfl (hdep 12 (by decide)) (by intro c hc;simp[DJ]at hc);have hroom:AU (ds.length+1) 32=true:=by simp[AU];omega
   refine⟨_,CX (s1:=⟨(49,.own 88 4 (ds++[x.V]))::(37,.v (.list ds))::e,At C0 C1 f st fo cl bad ow li x rest ds d⟩) rfl ?_,hE.pushW EH 13 49 1 37 rfl rfl rfl rfl,?_⟩
   ·simp[AI.step,Opd.ev,Opd.clear,v1,v12,Dr,D.toV,D.copy,Dat.V,V.cells,hroom,D.v?]
   ·simp[At,CG,CM,Cc]
  |14,_=>
   exact⟨_,BO (v:= .ref 4 4) rfl (by simp[PI.val,Opd.ev,b6]),hE.push EH 14 50 rfl rfl,by simp[At,CG,CM,Cc]⟩
  |15,_=>
   have v13:AG e 49= .own 88 4 (ds++[x.V]):=hE.1 13 49 rfl (hdep 13 (by decide)) (by intro c hc;simp[DJ]at hc;subst hc;exact hdi);have v14:AG e 50= .ref 4 4:=hE.1 14 50 rfl (hdep 14 (by decide)) (by intro c hc;simp[DJ]at hc);refine⟨_,CX (s1:=⟨(49,.any)::e,At C0 C1 f st fo cl bad ow li x rest ds (Cc d 15)⟩) rfl ?_,hE.last EH 15 13 49 rfl rfl rfl,rfl⟩;simp[AI.step,Opd.ev,v13,v14,At,CM,Cc,CG,D.copy]
  |i+16,hi=>omega
 ·rintro d ⟨e,h⟩ hall ⟨hE,hh⟩;simp only at hE hh;subst hh;have e1:At C0 C1 f st fo cl bad ow li x rest ds d=At C0 C1 f st fo cl bad ow li x rest ds (λ_=>true):=by
   simp[At,CG,CM,hall 10 (by decide),hall 15 (by decide)]
  rw[e1];exact hK e hE.2
 ·refine⟨⟨λj k' hj hd=>?_,hse⟩,rfl⟩;simp only[decide_eq_true_eq]at hd;have:LF[j]?=none:=pN (by simpa[LF]using hd);rw[this]at hj;cases hj
end
section
def SL:AT:=match ll 113 1 with| .seq _ (.seq _ (.seq (.block _ (.regA _ _ _ t)) _))=>t|_=> .done
def Tl:List (List Nat):=match ll 113 1 with| .seq _ (.seq _ (.seq (.block _ (.regA _ _ c _)) _))=>c|_=>[]
theorem Rn:(lG 113 1)= .seq (.reg (oG 113 14) [1,2,4,5,6,56,57,58]) (.seq (.cond (.t 58 false) .skip (.exit 2)) (.seq (.block 3 (.regA (oG 113 15) [1,2,4,5,6,56,57] Tl SL)) (.reg (oG 113 16) [1,2,4,5,6,56,57]))):=(A8 113 1 :)
def Qt:List GI:=lo 113 15
theorem VX:oG 113 15=Qt:=(AA 113 15 :)
theorem Q4:SL.chk Qt Tl (List.range 14)=true:=by kernel_rfl
def M8:List (Option Nat):=[some 59,some 60,some 61,some 62,some 63,some 64,some 65,some 66,some 67,some 68,some 69,some 70,some 71,none]
def D0:List (Option Nat):=[none,some 11,none,none,none,none,none,none,none,none,none,some 13,none,none]
def GT:List Nat:=[1,2,4,5,6,56,57]
theorem Ds:Ux M8 GT=true:=by kernel_rfl
def W6 (x:Own) (ds:List V) (j:Nat):D:=
 match j with
 |0=> .ref 4 6
 |1=> .own 246 3 ds
 |2=> .ref 2 0
 |3=> .v (.int .i64 x.party)
 |4=> .ref 2 0
 |5=> .v (.int .i64 x.num)
 |6=> .ref 2 0
 |7=> .v (.int .i64 x.den)
 |8=> .agg [.v (.int .i64 x.num),.v (.int .i64 x.den)]
 |9=> .agg [.v (.int .i64 x.party),.v (.int .i64 x.num),.v (.int .i64 x.den)]
 |10=> .own 246 3 [x.V]
 |11=> .own 246 3 (ds++[x.V])
 |12=> .ref 4 6
 |_=> .any
def CF (d:Nat→Bool):Nat:=if d 7 then 3 else (if d 5 then 2 else (if d 3 then 1 else (0)))
def DW (x:Own) (rest:List Int):Nat→List Int
 |0=>AZ x.party++(AZ x.num++(AZ x.den++rest))
 |1=>AZ x.num++(AZ x.den++rest)
 |2=>AZ x.den++rest
 |_=>rest
def CE (x:Own) (ds:List V) (d:Nat→Bool):D:=if d 13 then .own 246 3 (ds++[x.V]) else if d 1 then .v (.list ds) else .own 246 3 ds
def Ax (C0 C1:Row) (f st fo cl y1 y2 y3:D) (x:Own) (rest:List Int) (ds:List V) (d:Nat→Bool):List Row:=
 [C0,C1,Cu (DW x rest (CF d)),.cells [.ref 2 0],.cells [f,st,fo,cl,y1,y2,CE x ds d,y3]]
def Ld (n k:Int) (j:Nat):D:=
 match j with
 |1=> .ref 0 0
 |2=> .ref 1 0
 |4=> .ref 3 0
 |5=> .func 204 [.ref 3 0,.ref 0 0]
 |6=> .ref 4 0
 |56=> .v (.int .i64 n)
 |57=> .v (.int .i64 k)
 |_=> .any
variable {K:St→Prop}
theorem bu (C0 C1:Row) (f st fo cl y1 y2 y3:D) (x:Own) (hx:x.ok) (rest:List Int) (ds:List V) (hds:ds.length≤2^30) (n k:Int)
  (hK:∀e,(∀k'∈GT,AG e k'=Ld n k k')→K ⟨e,Ax C0 C1 f st fo cl y1 y2 y3 x rest ds (λ_=>true)⟩) (se:CB) (hse:∀k'∈GT,AG se k'=Ld n k k'):
  SL.ok Tryz.prog Ah (oG 113 15) K ⟨se,Ax C0 C1 f st fo cl y1 y2 y3 x rest ds (λj=>decide (14≤j))⟩:=by
 rw[VX];refine JI (λd s=>EnvD M8 D0 GT (W6 x ds) (Ld n k) d s.e∧s.h=Ax C0 C1 f st fo cl y1 y2 y3 x rest ds d) Q4 ?_ ?_ ?_
 ·rintro d i ⟨e,h⟩ hi hdi hdep hup ⟨hE,hh⟩;simp only at hE hh;subst hh;have b4:AG e 4= .ref 3 0:=hE.2 4 (by simp[GT]);have b6:AG e 6= .ref 4 0:=hE.2 6 (by simp[GT])
  match i,hi with
  |0,_=>
   exact⟨_,BO (v:= .ref 4 6) rfl (by simp[PI.val,Opd.ev,b6]),hE.push Ds 0 59 rfl rfl,by simp[Ax,CF,CE,Cc]⟩
  |1,_=>
   have v0:AG e 59= .ref 4 6:=hE.1 0 59 rfl (hdep 0 (by decide)) (by intro c hc;simp[D0]at hc);have d13:d 13=false:=hup 13 (by decide) (by decide);refine⟨_,CX (s1:=⟨(60,.own 246 3 ds)::e,Ax C0 C1 f st fo cl y1 y2 y3 x rest ds (Cc d 1)⟩) rfl ?_,hE.push Ds 1 60 rfl rfl,rfl⟩;simp[AI.step,Opd.ev,v0,Ax,CF,CE,Cc,d13,hdi]
  |2,_=>
   exact⟨_,BO (v:= .ref 2 0) rfl (by simp[PI.val,Opd.ev,b4,Ax,D.part,D.copy]),hE.push Ds 2 61 rfl rfl,by simp[Ax,CF,CE,Cc]⟩
  |3,_=>
   have v2:AG e 61= .ref 2 0:=hE.1 2 61 rfl (hdep 2 (by decide)) (by intro c hc;simp[D0]at hc);have d5:d 5=false:=hup 5 (by decide) (by decide);have d7:d 7=false:=hup 7 (by decide) (by decide);have hF:=Ls x.party hx.1 (Ax C0 C1 f st fo cl y1 y2 y3 x rest ds d) 2 (AZ x.num++(AZ x.den++rest)) (by simp[Ax,DW,CF,hdi,d5,d7]);exact⟨_,CZ (k:=62) (r:= .v (.int .i64 x.party)) rfl (by simpa[Av,D.arg,Opd.ev,v2]using hF),hE.push Ds 3 62 rfl rfl,by simp[DW,Ax,CF,CE,Cc,hdi,d5,d7]⟩
  |4,_=>
   exact⟨_,BO (v:= .ref 2 0) rfl (by simp[PI.val,Opd.ev,b4,Ax,D.part,D.copy]),hE.push Ds 4 63 rfl rfl,by simp[Ax,CF,CE,Cc]⟩
  |5,_=>
   have v4:AG e 63= .ref 2 0:=hE.1 4 63 rfl (hdep 4 (by decide)) (by intro c hc;simp[D0]at hc);have d7:d 7=false:=hup 7 (by decide) (by decide);have d3:d 3=true:=hdep 3 (by decide);have hF:=Ls x.num hx.2.1 (Ax C0 C1 f st fo cl y1 y2 y3 x rest ds d) 2 (AZ x.den++rest) (by simp[Ax,DW,CF,hdi,d7,d3]);exact⟨_,CZ (k:=64) (r:= .v (.int .i64 x.num)) rfl (by simpa[Av,D.arg,Opd.ev,v4]using hF),hE.push Ds 5 64 rfl rfl,by simp[DW,Ax,CF,CE,Cc,hdi,d7,d3]⟩
  |6,_=>
   exact⟨_,BO (v:= .ref 2 0) rfl (by simp[PI.val,Opd.ev,b4,Ax,D.part,D.copy]),hE.push Ds 6 65 rfl rfl,by simp[Ax,CF,CE,Cc]⟩
  |7,_=>
   have v6:AG e 65= .ref 2 0:=hE.1 6 65 rfl (hdep 6 (by decide)) (by intro c hc;simp[D0]at hc);have d3:d 3=true:=hdep 3 (by decide);have d5:d 5=true:=hdep 5 (by decide);have hF:=Ls x.den hx.2.2 (Ax C0 C1 f st fo cl y1 y2 y3 x rest ds d) 2 (rest) (by simp[Ax,DW,CF,hdi,d5]);exact⟨_,CZ (k:=66) (r:= .v (.int .i64 x.den)) rfl (by simpa[Av,D.arg,Opd.ev,v6]using hF),hE.push Ds 7 66 rfl rfl,by simp[DW,Ax,CF,CE,Cc,hdi,d5]⟩
  |8,_=>
   have v5:AG e 64= .v (.int .i64 x.num):=hE.1 5 64 rfl (hdep 5 (by decide)) (by intro c hc;simp[D0]at hc);have v7:AG e 66= .v (.int .i64 x.den):=hE.1 7 66 rfl (hdep 7 (by decide)) (by intro c hc;simp[D0]at hc);exact⟨_,BO (v:= .agg [.v (.int .i64 x.num),.v (.int .i64 x.den)]) rfl (by simp[PI.val,FE,Opd.ev,v5,v7,D.cells?,D.copy,AO]),hE.push Ds 8 67 rfl rfl,by simp[Ax,CF,CE,Cc]⟩
  |9,_=>
   have v3:AG e 62= .v (.int .i64 x.party):=hE.1 3 62 rfl (hdep 3 (by decide)) (by intro c hc;simp[D0]at hc);have v8:AG e 67= .agg [.v (.int .i64 x.num),.v (.int .i64 x.den)]:=hE.1 8 67 rfl (hdep 8 (by decide)) (by intro c hc;simp[D0]at hc);exact⟨_,BO (v:= .agg [.v (.int .i64 x.party),.v (.int .i64 x.num),.v (.int .i64 x.den)]) rfl (by simp[PI.val,FE,Opd.ev,v3,v8,D.cells?,D.copy,AO]),hE.push Ds 9 68 rfl rfl,by simp[Ax,CF,CE,Cc]⟩
  |10,_=>
   have v9:AG e 68= .agg [.v (.int .i64 x.party),.v (.int .i64 x.num),.v (.int .i64 x.den)]:=hE.1 9 68 rfl (hdep 9 (by decide)) (by intro c hc;simp[D0]at hc);refine⟨_,CX (s1:=⟨(69,.own 246 3 [x.V])::e,Ax C0 C1 f st fo cl y1 y2 y3 x rest ds d⟩) rfl ?_,hE.push Ds 10 69 rfl rfl,?_⟩
   ·simp[AI.step,IE,D.toV,Opd.ev,v9,Own.V,D.vs?,D.v?,D.copy,V.cells]
   ·simp[Ax,CF,CE,Cc]
  |11,_=>
   have v1:AG e 60= .own 246 3 ds:=hE.1 1 60 rfl (hdep 1 (by decide)) (by intro c hc;simp[D0]at hc;subst hc;exact hdi);have v10:AG e 69= .own 246 3 [x.V]:=hE.1 10 69 rfl (hdep 10 (by decide)) (by intro c hc;simp[D0]at hc);have hroom:AU (ds.length+1) 24=true:=by simp[AU];omega
   refine⟨_,CX (s1:=⟨(70,.own 246 3 (ds++[x.V]))::(60,.v (.list ds))::e,Ax C0 C1 f st fo cl y1 y2 y3 x rest ds d⟩) rfl ?_,hE.pushW Ds 11 70 1 60 rfl rfl rfl rfl,?_⟩
   ·simp[AI.step,Opd.ev,Opd.clear,v1,v10,Dr,D.toV,D.copy,Own.V,V.cells,hroom,D.v?]
   ·simp[Ax,CF,CE,Cc]
  |12,_=>
   exact⟨_,BO (v:= .ref 4 6) rfl (by simp[PI.val,Opd.ev,b6]),hE.push Ds 12 71 rfl rfl,by simp[Ax,CF,CE,Cc]⟩
  |13,_=>
   have v11:AG e 70= .own 246 3 (ds++[x.V]):=hE.1 11 70 rfl (hdep 11 (by decide)) (by intro c hc;simp[D0]at hc;subst hc;exact hdi);have v12:AG e 71= .ref 4 6:=hE.1 12 71 rfl (hdep 12 (by decide)) (by intro c hc;simp[D0]at hc);refine⟨_,CX (s1:=⟨(70,.any)::e,Ax C0 C1 f st fo cl y1 y2 y3 x rest ds (Cc d 13)⟩) rfl ?_,hE.last Ds 13 11 70 rfl rfl rfl,rfl⟩;simp[AI.step,Opd.ev,v11,v12,Ax,CF,CE,Cc,D.copy]
  |i+14,hi=>omega
 ·rintro d ⟨e,h⟩ hall ⟨hE,hh⟩;simp only at hE hh;subst hh;have e1:Ax C0 C1 f st fo cl y1 y2 y3 x rest ds d=Ax C0 C1 f st fo cl y1 y2 y3 x rest ds (λ_=>true):=by
   simp[Ax,CF,CE,hall 7 (by decide),hall 13 (by decide)]
  rw[e1];exact hK e hE.2
 ·refine⟨⟨λj k' hj hd=>?_,hse⟩,rfl⟩;simp only[decide_eq_true_eq]at hd;have:M8[j]?=none:=pN (by simpa[M8]using hd);rw[this]at hj;cases hj
def SK:AT:=match ll 113 2 with| .seq _ (.seq _ (.seq (.block _ (.regA _ _ _ t)) _))=>t|_=> .done
def Tk:List (List Nat):=match ll 113 2 with| .seq _ (.seq _ (.seq (.block _ (.regA _ _ c _)) _))=>c|_=>[]
theorem Rm:(lG 113 2)= .seq (.reg (oG 113 18) [1,2,4,6,74,75,76]) (.seq (.cond (.t 76 false) .skip (.exit 4)) (.seq (.block 5 (.regA (oG 113 19) [1,2,4,6,74,75] Tk SK)) (.reg (oG 113 20) [1,2,4,6,74,75]))):=(A8 113 2 :)
def Qs:List GI:=lo 113 19
theorem VW:oG 113 19=Qs:=(AA 113 19 :)
theorem Q3:SK.chk Qs Tk (List.range 15)=true:=by kernel_rfl
def M7:List (Option Nat):=[some 77,some 78,some 79,some 80,some 81,some 82,some 83,some 84,some 85,some 86,some 87,some 88,some 89,some 90,none]
def Dg:List (Option Nat):=[none,some 12,none,none,none,none,none,none,none,none,none,none,some 14,none,none]
def GS:List Nat:=[1,2,4,6,74,75]
theorem Dd:Ux M7 GS=true:=by kernel_rfl
def W5 (x:Lic) (ds:List V) (j:Nat):D:=
 match j with
 |0=> .ref 4 7
 |1=> .own 247 4 ds
 |2=> .ref 2 0
 |3=> .v (.int .i64 x.fr)
 |4=> .ref 2 0
 |5=> .v (.int .i64 x.to)
 |6=> .ref 2 0
 |7=> .v (.int .i64 x.fst)
 |8=> .ref 2 0
 |9=> .v (.int .i64 x.lst)
 |10=> .agg [.v (.int .i64 x.fr),.v (.int .i64 x.to),.v (.int .i64 x.fst),.v (.int .i64 x.lst)]
 |11=> .own 247 4 [x.V]
 |12=> .own 247 4 (ds++[x.V])
 |13=> .ref 4 7
 |_=> .any
def Bp (d:Nat→Bool):Nat:=if d 9 then 4 else (if d 7 then 3 else (if d 5 then 2 else (if d 3 then 1 else (0))))
def Cw (x:Lic) (rest:List Int):Nat→List Int
 |0=>AZ x.fr++(AZ x.to++(AZ x.fst++(AZ x.lst++rest)))
 |1=>AZ x.to++(AZ x.fst++(AZ x.lst++rest))
 |2=>AZ x.fst++(AZ x.lst++rest)
 |3=>AZ x.lst++rest
 |_=>rest
def Bs (x:Lic) (ds:List V) (d:Nat→Bool):D:=if d 14 then .own 247 4 (ds++[x.V]) else if d 1 then .v (.list ds) else .own 247 4 ds
def Ap (C0 C1:Row) (f st fo cl y1 y2 y3:D) (x:Lic) (rest:List Int) (ds:List V) (d:Nat→Bool):List Row:=
 [C0,C1,Cu (Cw x rest (Bp d)),.cells [.ref 2 0],.cells [f,st,fo,cl,y1,y2,y3,Bs x ds d]]
def Lc (n k:Int) (j:Nat):D:=
 match j with
 |1=> .ref 0 0
 |2=> .ref 1 0
 |4=> .ref 3 0
 |6=> .ref 4 0
 |74=> .v (.int .i64 n)
 |75=> .v (.int .i64 k)
 |_=> .any
theorem bt (C0 C1:Row) (f st fo cl y1 y2 y3:D) (x:Lic) (hx:x.ok) (rest:List Int) (ds:List V) (hds:ds.length≤2^30) (n k:Int)
  (hK:∀e,(∀k'∈GS,AG e k'=Lc n k k')→K ⟨e,Ap C0 C1 f st fo cl y1 y2 y3 x rest ds (λ_=>true)⟩) (se:CB) (hse:∀k'∈GS,AG se k'=Lc n k k'):
  SK.ok Tryz.prog Ah (oG 113 19) K ⟨se,Ap C0 C1 f st fo cl y1 y2 y3 x rest ds (λj=>decide (15≤j))⟩:=by
 rw[VW];refine JI (λd s=>EnvD M7 Dg GS (W5 x ds) (Lc n k) d s.e∧s.h=Ap C0 C1 f st fo cl y1 y2 y3 x rest ds d) Q3 ?_ ?_ ?_
 ·rintro d i ⟨e,h⟩ hi hdi hdep hup ⟨hE,hh⟩;simp only at hE hh;subst hh;have b4:AG e 4= .ref 3 0:=hE.2 4 (by simp[GS]);have b6:AG e 6= .ref 4 0:=hE.2 6 (by simp[GS])
  match i,hi with
  |0,_=>
   exact⟨_,BO (v:= .ref 4 7) rfl (by simp[PI.val,Opd.ev,b6]),hE.push Dd 0 77 rfl rfl,by simp[Ap,Bp,Bs,Cc]⟩
  |1,_=>
   have v0:AG e 77= .ref 4 7:=hE.1 0 77 rfl (hdep 0 (by decide)) (by intro c hc;simp[Dg]at hc);have d14:d 14=false:=hup 14 (by decide) (by decide);refine⟨_,CX (s1:=⟨(78,.own 247 4 ds)::e,Ap C0 C1 f st fo cl y1 y2 y3 x rest ds (Cc d 1)⟩) rfl ?_,hE.push Dd 1 78 rfl rfl,rfl⟩;simp[AI.step,Opd.ev,v0,Ap,Bp,Bs,Cc,d14,hdi]
  |2,_=>
   exact⟨_,BO (v:= .ref 2 0) rfl (by simp[PI.val,Opd.ev,b4,Ap,D.part,D.copy]),hE.push Dd 2 79 rfl rfl,by simp[Ap,Bp,Bs,Cc]⟩
  |3,_=>
   have v2:AG e 79= .ref 2 0:=hE.1 2 79 rfl (hdep 2 (by decide)) (by intro c hc;simp[Dg]at hc);have d5:d 5=false:=hup 5 (by decide) (by decide);have d7:d 7=false:=hup 7 (by decide) (by decide);have d9:d 9=false:=hup 9 (by decide) (by decide);have hF:=Ls x.fr hx.1 (Ap C0 C1 f st fo cl y1 y2 y3 x rest ds d) 2 (AZ x.to++(AZ x.fst++(AZ x.lst++rest))) (by simp[Ap,Cw,Bp,hdi,d5,d7,d9]);exact⟨_,CZ (k:=80) (r:= .v (.int .i64 x.fr)) rfl (by simpa[Av,D.arg,Opd.ev,v2]using hF),hE.push Dd 3 80 rfl rfl,by simp[Cw,Ap,Bp,Bs,Cc,hdi,d5,d7,d9]⟩
  |4,_=>
   exact⟨_,BO (v:= .ref 2 0) rfl (by simp[PI.val,Opd.ev,b4,Ap,D.part,D.copy]),hE.push Dd 4 81 rfl rfl,by simp[Ap,Bp,Bs,Cc]⟩
  |5,_=>
   have v4:AG e 81= .ref 2 0:=hE.1 4 81 rfl (hdep 4 (by decide)) (by intro c hc;simp[Dg]at hc);have d7:d 7=false:=hup 7 (by decide) (by decide);have d9:d 9=false:=hup 9 (by decide) (by decide);have d3:d 3=true:=hdep 3 (by decide);have hF:=Ls x.to hx.2.1 (Ap C0 C1 f st fo cl y1 y2 y3 x rest ds d) 2 (AZ x.fst++(AZ x.lst++rest)) (by simp[Ap,Cw,Bp,hdi,d7,d9,d3]);exact⟨_,CZ (k:=82) (r:= .v (.int .i64 x.to)) rfl (by simpa[Av,D.arg,Opd.ev,v4]using hF),hE.push Dd 5 82 rfl rfl,by simp[Cw,Ap,Bp,Bs,Cc,hdi,d7,d9,d3]⟩
  |6,_=>
   exact⟨_,BO (v:= .ref 2 0) rfl (by simp[PI.val,Opd.ev,b4,Ap,D.part,D.copy]),hE.push Dd 6 83 rfl rfl,by simp[Ap,Bp,Bs,Cc]⟩
  |7,_=>
   have v6:AG e 83= .ref 2 0:=hE.1 6 83 rfl (hdep 6 (by decide)) (by intro c hc;simp[Dg]at hc);have d9:d 9=false:=hup 9 (by decide) (by decide);have d3:d 3=true:=hdep 3 (by decide);have d5:d 5=true:=hdep 5 (by decide);have hF:=Ls x.fst hx.2.2.1 (Ap C0 C1 f st fo cl y1 y2 y3 x rest ds d) 2 (AZ x.lst++rest) (by simp[Ap,Cw,Bp,hdi,d9,d5]);exact⟨_,CZ (k:=84) (r:= .v (.int .i64 x.fst)) rfl (by simpa[Av,D.arg,Opd.ev,v6]using hF),hE.push Dd 7 84 rfl rfl,by simp[Cw,Ap,Bp,Bs,Cc,hdi,d9,d5]⟩
  |8,_=>
   exact⟨_,BO (v:= .ref 2 0) rfl (by simp[PI.val,Opd.ev,b4,Ap,D.part,D.copy]),hE.push Dd 8 85 rfl rfl,by simp[Ap,Bp,Bs,Cc]⟩
  |9,_=>
   have v8:AG e 85= .ref 2 0:=hE.1 8 85 rfl (hdep 8 (by decide)) (by intro c hc;simp[Dg]at hc);have d3:d 3=true:=hdep 3 (by decide);have d5:d 5=true:=hdep 5 (by decide);have d7:d 7=true:=hdep 7 (by decide);have hF:=Ls x.lst hx.2.2.2 (Ap C0 C1 f st fo cl y1 y2 y3 x rest ds d) 2 (rest) (by simp[Ap,Cw,Bp,hdi,d7]);exact⟨_,CZ (k:=86) (r:= .v (.int .i64 x.lst)) rfl (by simpa[Av,D.arg,Opd.ev,v8]using hF),hE.push Dd 9 86 rfl rfl,by simp[Cw,Ap,Bp,Bs,Cc,hdi,d7]⟩
  |10,_=>
   have v3:AG e 80= .v (.int .i64 x.fr):=hE.1 3 80 rfl (hdep 3 (by decide)) (by intro c hc;simp[Dg]at hc);have v5:AG e 82= .v (.int .i64 x.to):=hE.1 5 82 rfl (hdep 5 (by decide)) (by intro c hc;simp[Dg]at hc);have v7:AG e 84= .v (.int .i64 x.fst):=hE.1 7 84 rfl (hdep 7 (by decide)) (by intro c hc;simp[Dg]at hc);have v9:AG e 86= .v (.int .i64 x.lst):=hE.1 9 86 rfl (hdep 9 (by decide)) (by intro c hc;simp[Dg]at hc);exact⟨_,BO (v:= .agg [.v (.int .i64 x.fr),.v (.int .i64 x.to),.v (.int .i64 x.fst),.v (.int .i64 x.lst)]) rfl (by simp[PI.val,FE,Opd.ev,v3,v5,v7,v9,D.cells?,D.copy,AO]),hE.push Dd 10 87 rfl rfl,by simp[Ap,Bp,Bs,Cc]⟩
  |11,_=>
   have v10:AG e 87= .agg [.v (.int .i64 x.fr),.v (.int .i64 x.to),.v (.int .i64 x.fst),.v (.int .i64 x.lst)]:=hE.1 10 87 rfl (hdep 10 (by decide)) (by intro c hc;simp[Dg]at hc);refine⟨_,CX (s1:=⟨(88,.own 247 4 [x.V])::e,Ap C0 C1 f st fo cl y1 y2 y3 x rest ds d⟩) rfl ?_,hE.push Dd 11 88 rfl rfl,?_⟩
   ·simp[AI.step,IE,D.toV,Opd.ev,v10,Lic.V,D.vs?,D.v?,D.copy,V.cells]
   ·simp[Ap,Bp,Bs,Cc]
  |12,_=>
   have v1:AG e 78= .own 247 4 ds:=hE.1 1 78 rfl (hdep 1 (by decide)) (by intro c hc;simp[Dg]at hc;subst hc;exact hdi);have v11:AG e 88= .own 247 4 [x.V]:=hE.1 11 88 rfl (hdep 11 (by decide)) (by intro c hc;simp[Dg]at hc);have hroom:AU (ds.length+1) 32=true:=by simp[AU];omega
   refine⟨_,CX (s1:=⟨(89,.own 247 4 (ds++[x.V]))::(78,.v (.list ds))::e,Ap C0 C1 f st fo cl y1 y2 y3 x rest ds d⟩) rfl ?_,hE.pushW Dd 12 89 1 78 rfl rfl rfl rfl,?_⟩
   ·simp[AI.step,Opd.ev,Opd.clear,v1,v11,Dr,D.toV,D.copy,Lic.V,V.cells,hroom,D.v?]
   ·simp[Ap,Bp,Bs,Cc]
  |13,_=>
   exact⟨_,BO (v:= .ref 4 7) rfl (by simp[PI.val,Opd.ev,b6]),hE.push Dd 13 90 rfl rfl,by simp[Ap,Bp,Bs,Cc]⟩
  |14,_=>
   have v12:AG e 89= .own 247 4 (ds++[x.V]):=hE.1 12 89 rfl (hdep 12 (by decide)) (by intro c hc;simp[Dg]at hc;subst hc;exact hdi);have v13:AG e 90= .ref 4 7:=hE.1 13 90 rfl (hdep 13 (by decide)) (by intro c hc;simp[Dg]at hc);refine⟨_,CX (s1:=⟨(89,.any)::e,Ap C0 C1 f st fo cl y1 y2 y3 x rest ds (Cc d 14)⟩) rfl ?_,hE.last Dd 14 12 89 rfl rfl rfl,rfl⟩;simp[AI.step,Opd.ev,v12,v13,Ap,Bp,Bs,Cc,D.copy]
  |i+15,hi=>omega
 ·rintro d ⟨e,h⟩ hall ⟨hE,hh⟩;simp only at hE hh;subst hh;have e1:Ap C0 C1 f st fo cl y1 y2 y3 x rest ds d=Ap C0 C1 f st fo cl y1 y2 y3 x rest ds (λ_=>true):=by
   simp[Ap,Bp,Bs,hall 9 (by decide),hall 14 (by decide)]
  rw[e1];exact hK e hE.2
 ·refine⟨⟨λj k' hj hd=>?_,hse⟩,rfl⟩;simp only[decide_eq_true_eq]at hd;have:M7[j]?=none:=pN (by simpa[M7]using hd);rw[this]at hj;cases hj
end
end Go.Va
