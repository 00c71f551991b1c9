/- Laws that ExtractBytes leans on, part 18. No condition of its own. -/
import Derived.Test.YtopldfpkgbkomaaGreatDoorL15
set_option linter.all false
set_option maxRecDepth 100000
set_option maxHeartbeats 4000000
noncomputable section
namespace Go.Va
open Go.Proofs
open Go.Proofs
theorem Sc {l:List Ivl} (h:G5 l=0):l.length≤32:=by
 unfold G5 at h;split at h
 ·cases h
 ·split at h
  ·cases h
  ·omega
theorem Qw {f:F} (h:Bt f=0):f.size≤96:=by
 unfold Bt at h;split at h
 ·cases h
 ·omega
theorem VA {f:F} (hok:f.ok) (h:Bt f=0):f.rd:=by
 intro g hg;refine⟨hok.1 g hg,?_⟩;unfold Bt at h;split at h
 ·cases h
 ·split at h
  ·rename_i ha;have:=qV.1 ha g hg;unfold BH at this;split at this
   ·cases this
   ·rename_i hn;by_cases h2:g.op=2
    ·simp[h2]at this;exact Sc this.2.2.2
    ·have:¬0 <g.ins.length:=λhh=>hn (.inl ⟨h2,hh⟩);omega
  ·cases h
theorem OF {l:List Clm} {c:Clm} (hc:c∈l):(By c.body).length≤(A8 l).length:=by
 unfold A8;have:(BT c).length≤(l.flatMap BT).length:=by
  induction l with
  |nil=>cases hc
  |cons x l ih=>
   simp only[qN,qG];rcases qL.1 hc with rfl|hc
   ·omega
   ·have:=ih hc;omega
 simp only[BT,AY,qG]at this ⊢;omega
section
abbrev lo (f k:Nat) {x:(Nat→Int)→(Nat→Int)→List GI} (_h:(λI J=>Ph PG An Hs f I J k)=x:=by conv=>lhs;reduce):List GI:=x (λn=> @OfNat.ofNat Int n _) (λn=> -@OfNat.ofNat Int n _)
variable {e:CH} {bn:List Nat}
theorem EnvD.pushW {ns cs:List (Option Nat)} {vs bv:Nat→D} {d:Nat→Bool} (hE:EnvD ns cs bn vs bv d e) (hok:Uh ns bn=true) (i k j m:Nat) {v w:D} (hi:ns[i]?=some (some k)) (hv:vs i=v) (hj:cs[j]?=some (some i)) (hm:ns[j]?=some (some m)):
  EnvD ns cs bn vs bv (Cj d i) ((k,v)::(m,w)::e):=by
 refine hE.step hok i (λk' hk'=>?_) (λk' hk' hc=>?_)
 ·rw[hi]at hk';simp only[qF]at hk';subst hk';show (if k=k then v else _)=vs i;rw[if_pos rfl,hv]
 ·show (if k=k' then v else if m=k' then w else AF e k')=AF e k';rw[if_neg (λh=>hk' (by rw[hi,h])),if_neg (λh=>hc j hj (by rw[hm,h]))]
def T4:AT:=match ll 113 0 with| .seq _ (.seq _ (.seq (.block _ (.regA _ _ _ t)) _))=>t|_=> .done
def Vi:List (List Nat):=match ll 113 0 with| .seq _ (.seq _ (.seq (.block _ (.regA _ _ c _)) _))=>c|_=>[]
theorem TU:(lG 113 0)= .seq (.reg (oG 113 9) [1,2,4,5,6,33,34,35]) (.seq (.cond (.t 35 false) .skip (.exit 0)) (.seq (.block 1 (.regA (oG 113 10) [1,2,4,5,6,33,34] Vi T4)) (.reg (oG 113 11) [1,2,4,5,6,33,34]))):=(BA 113 0 :)
def LB:List GI:=lo 113 10
theorem XZ:oG 113 10=LB:=(AA 113 10 :)
theorem Sb:T4.chk LB Vi (List.range 16)=true:=by kernel_rfl
def Lj:List (Option Nat):=[some 36,some 37,some 38,some 39,some 40,some 41,some 42,some 43,some 44,some 45,some 46,some 47,some 48,some 49,some 50,none]
def Dd:List (Option Nat):=[none,some 13,none,none,none,none,none,none,none,none,none,none,none,some 15,none,none]
def F4:List Nat:=[1,2,4,5,6,33,34]
theorem EZ:Uh Lj F4=true:=by kernel_rfl
def Tn (x:Dat) (ds:List V) (j:Nat):D:=
 match j with
 |0|14=> .ref 4 4
 |1=> .own 88 4 ds
 |2|4|7|9=> .ref 2 0
 |3=> .v (.int .i64 x.cl)
 |5=> .v (.int .i64 x.ix)
 |6=> .agg [.v (.int .i64 x.cl),.v (.int .i64 x.ix)]
 |8=> .v (.int .i64 x.day)
 |10=> .v (.int .i64 x.file)
 |11=> .agg [.v (.int .i64 x.cl),.v (.int .i64 x.ix),.v (.int .i64 x.day),.v (.int .i64 x.file)]
 |12=> .own 88 4 [x.V]
 |13=> .own 88 4 (ds++[x.V])
 |_=> .any
def Cd (d:Nat→Bool):Nat:=if d 10 then 4 else if d 8 then 3 else if d 5 then 2 else if d 3 then 1 else 0
def Cg (x:Dat) (ds:List V) (d:Nat→Bool):D:=if d 15 then .own 88 4 (ds++[x.V]) else if d 1 then .v (.list ds) else .own 88 4 ds
def NQ (n k:Int) (j:Nat):D:=
 match j with
 |1=> .ref 0 0
 |2=> .ref 1 0
 |4=> .ref 3 0
 |5=> .func 204 [.ref 3 0,.ref 0 0]
 |6=> .ref 4 0
 |33=> .v (.int .i64 n)
 |34=> .v (.int .i64 k)
 |_=> .any
end
def Ku (l:List Int):Ivl:=⟨l.getD 0 0,l.getD 1 0,l.getD 2 0,l.getD 3 0,l.getD 4 0==1,l.getD 5 0==1,l.getD 6 0==1,l.getD 7 0==1⟩
def Dc:Nat→RS→List Ivl×RS×Bool
 |0,s=>([],s,true)
 |n+1,s=>if (Am s).1.length=8 then (Ku (Am s).1::(Dc n (Am s).2).1,(Dc n (Am s).2).2) else ([],(Am s).2,false)
def Cz (rd:RS→Int→F×RS×Int):Nat→RS→Int→List F×RS×Int
 |0,s,l=>([],s,l)
 |n+1,s,l=>if l <0 then ([],s,l) else ((rd s l).1::(Cz rd n (rd s l).2.1 (rd s l).2.2).1,(Cz rd n (rd s l).2.1 (rd s l).2.2).2)
def OT (n:Int) (m:Nat) (k l:Int):Int:=if n≠m∨k <0∨l <k then -1 else l
def dF:Nat→RS→Int→F×RS×Int
 |0,s,_=>(.mk 0 0 [] [],s,-1)
 |fu+1,s,l=>
  let op:=Ad s
  let nn:=Ad op.2
  let n:=Ad nn.2
  let iv:=Dc (if n.1≤32∧0≤l-1 then n.1.toNat else 0) n.2
  if iv.2.2=true then
   let k:=Ad iv.2.1
   let ks:=Cz (dF fu) k.1.toNat k.2 (OT n.1 iv.1.length k.1 (l-1))
   (.mk op.1 nn.1 iv.1 ks.1,ks.2)
  else (.mk op.1 nn.1 iv.1 [],iv.2.1,-1)
def Xb (b:List Int):Option F:=
 let x:=dF 97 (b,0) 96
 if x.2.2 <0∨Fk x.2.1≠0 then none else if Bt x.1=0∧By x.1=b then some x.1 else none
theorem XF (x:Ivl):Ku [x.ln,x.ld,x.hn,x.hd,E4 x.lo,E4 x.ho,E4 x.li,E4 x.hi]=x:=by
 simp[Ku,bu]
theorem SL:∀(l:List Ivl) (rest:List Int),(∀x∈l,x.ok)→Dc l.length (l.flatMap Ce++rest,0)=(l,(rest,0),true)
 |[],rest,_=>rfl
 |x::l,rest,h=>by
  have e:=Hc (xs:=[x.ln,x.ld,x.hn,x.hd,E4 x.lo,E4 x.ho,E4 x.li,E4 x.hi]) (Ny (h x (by simp))) (by simp) (l.flatMap Ce++rest);rw[qT,qN,qg,Dc,Ce,e,if_pos (by rfl),XF,SL l rest λy hy=>h y (by simp[hy])]
theorem Py {rd:RS→Int→F×RS×Int} {L:Int}:∀(l:List F) (rest:List Int) (m:Int),(∀x∈l,∀rest m,(x.size:Int)≤m→m≤L→rd (By x++rest,0) m=(x,(rest,0),m-x.size))→((l.map F.size).sum:Int)≤m→m≤L→
  Cz rd l.length (l.flatMap By++rest,0) m=(l,(rest,0),m-(l.map F.size).sum)
 |[],rest,m,_,_,_=>by simp[Cz]
 |x::l,rest,m,h,hs,hL=>by
  simp only[qR,rq,rQ]at hs;rw[qT,qN,qg,Cz,if_neg (by omega),h x (by simp) _ m (by omega) hL,Py l rest _ (λy hy=>h y (by simp[hy])) (by simp only;omega) (by simp only;omega)];simp only[qR,rq,rQ,Int.sub_sub]
theorem Yy:∀(fu:Nat) (f:F) (rest:List Int) (l:Int),f.rd→(f.size:Int)≤l→l≤fu→l≤96→dF fu (By f++rest,0) l=(f,(rest,0),l-f.size)
 |0,f,rest,l,_,h1,h2,_=>by have:=f.size_pos;omega
 |fu+1,.mk op n ins kids,rest,l,hrd,h1,h2,h96=>by
  have hse:=F.size_eq op n ins kids;have hkl:=F.kids_len kids;obtain⟨⟨o1,o2,o3,o4⟩,hi32⟩:=hrd (.mk op n ins kids) (by rw[F.nodes_eq];simp);simp only[F.op,F.n,F.ins]at o1 o2 o3 hi32;have hE:By (.mk op n ins kids)++rest=AN op++(AN n++(AN ins.length++(ins.flatMap Ce++(AN kids.length++(kids.flatMap By++rest))))):=by rw[XV];simp[C7,F.op,F.n,F.ins,F.kids]
  have hk:=Py (rd:=dF fu) (L:=l-1) kids rest (l-1) (λx hx rest m hm hL=>Yy fu x rest m (F.rd_kid hrd hx) hm (by omega) (by omega)) (by omega) (Int.le_refl _);rw[hE];have e4:(if ((ins.length:Nat):Int)≤32∧0≤l-1 then ins.length else 0)=ins.length:=by rw[if_pos (by omega)]
  have e5:OT (ins.length:Int) ins.length (kids.length:Int) (l-1)=l-1:=by unfold OT;rw[if_neg (by omega)]
  simp only[dF,BC o1,BC o2,BC (show i64 (ins.length:Int) by unfold i64;omega),qt,e4,SL ins _ o3,if_true,BC (show i64 (kids.length:Int) by unfold i64;omega),e5,hk];rw[hse];have:l-1-((kids.map F.size).sum:Nat)=l-((1+(kids.map F.size).sum:Nat):Int):=by omega
  rw[this]
theorem XE {l:List Int} (h:∀x∈l,i64 x):(Ku l).ok:=by
 have key:∀i,i64 (l.getD i 0):=by
  intro i;rw[t8];cases hx:l[i]? with
  |none=>unfold i64;simp
  |some x=>exact h x (qJ hx)
 exact⟨key 0,key 1,key 2,key 3⟩
theorem OH:∀(n:Nat) (s:RS),s.B→(∀x∈(Dc n s).1,x.ok)∧(Dc n s).1.length≤n∧(Dc n s).2.1.1 <:+ s.1
 |0,s,_=>⟨(λx hx=>by cases hx),qM _,List.suffix_refl _⟩
 |n+1,s,h=>by
  have hi:=GJ s h;have hs:=BN s;rw[Dc];split
  ·obtain⟨h1,h2,h3⟩:=OH n (Am s).2 (h.suf hs);refine⟨λx hx=>?_,by simp only[qT];omega,h3.trans hs⟩;rcases qL.1 hx with rfl|hx
   ·exact XE hi.2
   ·exact h1 x hx
  ·exact⟨(λx hx=>by cases hx),rF _,hs⟩
theorem Px {rd:RS→Int→F×RS×Int} {p:F→Prop} (hrd:∀s l,s.B→p (rd s l).1∧(rd s l).2.1.1 <:+ s.1∧(0≤(rd s l).2.2→((rd s l).1.size:Int)=l-(rd s l).2.2)):
  ∀(n:Nat) (s:RS) (l:Int),s.B→(∀x∈(Cz rd n s l).1,p x)∧(Cz rd n s l).2.1.1 <:+ s.1∧(0≤(Cz rd n s l).2.2→((((Cz rd n s l).1.map F.size).sum:Nat):Int)=l-(Cz rd n s l).2.2)
 |0,s,l,_=>⟨(λx hx=>by cases hx),List.suffix_refl _,λh=>by simp[Cz]⟩
 |n+1,s,l,hB=>by
  rw[Cz];split
  ·exact⟨(λx hx=>by cases hx),List.suffix_refl _,λh=>by rename_i hl;exact absurd h (by simpa using hl)⟩
  ·obtain⟨r1,r2,r3⟩:=hrd s l hB;obtain⟨k1,k2,k3⟩:=Px hrd n (rd s l).2.1 (rd s l).2.2 (hB.suf r2);refine⟨λx hx=>?_,k2.trans r2,λh=>?_⟩
   ·rcases qL.1 hx with rfl|hx
    ·exact r1
    ·exact k1 x hx
   ·have h1:=k3 h;have h0:0≤(rd s l).2.2:=by
     have:=Int.natCast_nonneg (((Cz rd n (rd s l).2.1 (rd s l).2.2).1.map F.size).sum);simp only at h;omega
    have h2:=r3 h0;simp only[qR,rq,rQ];omega
theorem Pz:∀(fu:Nat) (s:RS) (l:Int),s.B→(dF fu s l).1.rd∧(dF fu s l).2.1.1 <:+ s.1∧(0≤(dF fu s l).2.2→((dF fu s l).1.size:Int)=l-(dF fu s l).2.2)
 |0,s,l,_=>by
  refine⟨λg hg=>?_,List.suffix_refl _,λh=>absurd h (by show ¬(0:Int)≤ -1;decide)⟩;have:g= .mk 0 0 [] []:=by simpa[dF,F.nodes_eq]using hg
  subst this;exact⟨⟨by unfold i64;simp[F.op],by unfold i64;simp[F.n],by simp[F.ins],by simp[F.ins]⟩,by simp[F.ins]⟩
 |fu+1,s,l,hB=>by
  rw[dF];obtain⟨op,hop⟩:∃op,Ad s=op:=⟨_,rfl⟩;obtain⟨nn,hnn⟩:∃nn,Ad op.2=nn:=⟨_,rfl⟩;obtain⟨n,hn⟩:∃n,Ad nn.2=n:=⟨_,rfl⟩;have o1:i64 op.1:=hop▸JK s hB;have b1:op.2.B:=hop▸hB.suf (Af s);have u1:op.2.1 <:+ s.1:=hop▸Af s;have o2:i64 nn.1:=hnn▸JK _ b1;have b2:nn.2.B:=hnn▸b1.suf (Af _);have u2:nn.2.1 <:+ op.2.1:=hnn▸Af _;have b3:n.2.B:=hn▸b2.suf (Af _);have u3:n.2.1 <:+ nn.2.1:=hn▸Af _;simp only[hop,hnn,hn];obtain⟨m,hm⟩:∃m,(if n.1≤32∧0≤l-1 then n.1.toNat else 0)=m:=⟨_,rfl⟩;have hm32:m≤32:=by rw[←hm];split<;>omega
  rw[hm];obtain⟨i1,i2,i3⟩:=OH m n.2 b3;generalize Dc m n.2=iv at*;have hu:iv.2.1.1 <:+ s.1:=i3.trans (u3.trans (u2.trans u1));split
  ·obtain⟨k1,k2,k3⟩:=Px (p:=F.rd) (λs l hB=>Pz fu s l hB) (Ad iv.2.1).1.toNat (Ad iv.2.1).2 (OT n.1 iv.1.length (Ad iv.2.1).1 (l-1)) ((hB.suf hu).suf (Af _));have hl2:OT n.1 iv.1.length (Ad iv.2.1).1 (l-1) <0∨OT n.1 iv.1.length (Ad iv.2.1).1 (l-1)=l-1:=by unfold OT;split<;>simp
   generalize OT n.1 iv.1.length (Ad iv.2.1).1 (l-1)=l2 at*;generalize Cz (dF fu) (Ad iv.2.1).1.toNat (Ad iv.2.1).2 l2=ks at*;refine⟨λg hg=>?_,k2.trans ((Af _).trans hu),λh=>?_⟩
   ·rw[F.nodes_eq]at hg;rcases qL.1 hg with rfl|hg
    ·exact⟨⟨o1,o2,i1,by simp only[F.ins];omega⟩,by simp only[F.ins];omega⟩
    ·obtain⟨x,hx,hg⟩:=rM.1 hg;exact k1 x hx g hg
   ·have h1:=k3 h;have h0:=Int.natCast_nonneg ((ks.1.map F.size).sum);rw[F.size_eq];simp only[rQ]at*;omega
  ·refine⟨λg hg=>?_,hu,λh=>absurd h (by show ¬(0:Int)≤ -1;decide)⟩;rw[F.nodes_eq]at hg;simp only[sr,qO]at hg;subst hg;exact⟨⟨o1,o2,i1,by simp only[F.ins];omega⟩,by simp only[F.ins];omega⟩
theorem au {f:F} (hok:f.ok) (hE:Bt f=0):Xb (By f)=some f:=by
 have hsz:=Qw hE;have h:=Yy 97 f [] 96 (VA hok hE) (by omega) (by decide) (by decide);rw[sI]at h;unfold Xb;simp only[h];rw[if_neg (by simp[Fk];omega),if_pos ⟨hE,trivial⟩]
theorem ar {b:List Int} {f:F} (hB:∀x∈b,0≤x∧x <256) (h:Xb b=some f):f.ok∧Bt f=0∧By f=b:=by
 unfold Xb at h;obtain⟨k1,k2,k3⟩:=Pz 97 (b,0) 96 hB;generalize dF 97 (b,0) 96=x at*;simp only at h;split at h
 ·cases h
 ·rename_i hc;split at h
  ·rename_i hd;simp only[qF]at h;subst h;have:=k3 (by omega);exact⟨⟨λg hg=>(k1 g hg).1,by omega⟩,hd.1,hd.2⟩
  ·cases h
section
def BB (h:List Row) (r lw:Nat) (x:RS) (lf:Int) (a b:Row):List Row:=(h.set r x.row).set lw (.cells [.v (.int .i64 lf)])++[a,b]
section
variable {h:List Row} {r lw:Nat} (hr:r <h.length) (hl:lw <h.length) (hne:r≠lw) (x:RS) (lf:Int) (a b:Row)
include hr hne
theorem K1:(BB h r lw x lf a b)[r]?=some x.row:=by
 unfold BB;rw[qe (by simpa using hr),qz (Ne.symm hne),rA (by simpa using hr)]
omit hr hne in
include hl in
theorem EB:(BB h r lw x lf a b)[lw]?=some (.cells [.v (.int .i64 lf)]):=by
 unfold BB;rw[qe (by simpa using hl),rA (by simpa using hl)]
omit hr hne in
theorem K2:(BB h r lw x lf a b)[h.length]?=some a:=by
 unfold BB;rw[ql (by simp)];simp
omit hr hne in
theorem Ek:(BB h r lw x lf a b)[h.length+1]?=some b:=by
 unfold BB;rw[ql (by simp)];simp
theorem JE (y:RS):(BB h r lw x lf a b).set r y.row=BB h r lw y lf a b:=by
 unfold BB;rw[rp _ _ (by simpa using hr),List.set_comm _ _ (Ne.symm hne),rI]
omit hr hne in
include hl in
theorem HX (m:Int):(BB h r lw x lf a b).set lw (.cells [.v (.int .i64 m)])=BB h r lw x m a b:=by
 unfold BB;rw[rp _ _ (by simpa using hl),rI]
omit hr hne in
theorem Oi (c:Row):(BB h r lw x lf a b).set h.length c=BB h r lw x lf c b:=by
 unfold BB;rw[sP _ _ (by simp)];simp
omit hr hne in
theorem JF (c:Row):(BB h r lw x lf a b).set (h.length+1) c=BB h r lw x lf a c:=by
 unfold BB;rw[sP _ _ (by simp)];simp
omit hr hne in
theorem Js:(BB h r lw x lf a b).length=h.length+2:=by simp[BB]
end
variable {lw r:Nat} {h:List Row}
theorem Sv {x:RS} {lf:Int} {a b:Row} (hl:Low h) (ha:Row.low 0 a=true) (hb:Row.low 0 b=true):Low (BB h r lw x lf a b):=by
 intro row hrow;rw[Js];unfold BB at hrow;rcases qW.1 hrow with hm|hm
 ·rcases rn hm with hm|rfl
  ·rcases rn hm with hm|rfl
   ·exact JS (by omega) row (hl row hm)
   ·rfl
  ·rfl
 ·simp only[qL,qn,or_false]at hm;rcases hm with rfl|rfl
  ·exact JS (by omega) _ ha
  ·exact JS (by omega) _ hb
def rZ (op m:Int) (ins:List Ivl) (kids:List F):Row:= .cells [.v (.int .i64 op),.v (.int .i64 m),.v (.list (ins.map Ivl.V)),.v (.list (kids.map F.V))]
variable {Q:AExit→St→Prop}
section
variable {h:List Row} {r lw:Nat} (hr:r <h.length) (hl:lw <h.length) (hne:r≠lw)
include hr hl hne
theorem gT (s:RS) (hB:s.B) (hsl:s.1.length≤2^44) (lf:Int) (hlf:0≤lf) (ca:List D) (hca:ca.length=4) (op m:Int) (ins:List Ivl) (n:Nat) (hn:n≤32) (hk:ins.length <n)
  (hQ:(Am s).1.length=8→Q .normal ⟨[(0,.ref r 0),(1,.ref lw 0),(4,.ref h.length 0),(5,.ref (h.length+1) 0),(6,.v (.int .i64 n)),(7,.v (.int .i64 (ins.length+1)))],BB h r lw (Am s).2 lf (.cells ca) (rB op m (ins++[Ku (Am s).1]) [])⟩)
  (hE:(Am s).1.length≠8→∀e,AF e 4= .ref h.length 0→Q .ret ⟨e,BB h r lw (Am s).2 (-1) (rZ op m ins []) (rB op m ins [])⟩):
  awp Tryz.prog An (lG 320 0) Q ⟨[(0,.ref r 0),(1,.ref lw 0),(4,.ref h.length 0),(5,.ref (h.length+1) 0),(6,.v (.int .i64 n)),(7,.v (.int .i64 ins.length))],BB h r lw s lf (.cells ca) (rB op m ins [])⟩:=by
 have k1:(n:Int)≤32:=by omega
 have p1:=M1 s hB hsl (BB h r lw s lf (.cells ca) (rB op m ins [])) r (K1 hr hne _ _ _ _);rw[JE hr hne]at p1;generalize (Am s).1=L at*;generalize (Am s).2=s' at*;simp only[Zw,BA 320 0,AA 320 5];simp[hk,k1,hlf,EB hl,AB];simp only[AA 320 7];simp;refine⟨_,_,p1,?_⟩;simp only[AA 320 8];by_cases h8:L.length=8
 ·have hroom:AK (ins.length+1) 40=true:=by simp[AK];omega
  have w1:IntKind.i64.wrap ((ins.length:Int)+1)=ins.length+1:=AQ;have hQ:=hQ h8;obtain⟨a0,a1,a2,a3,a4,a5,a6,a7,rfl⟩:∃a0 a1 a2 a3 a4 a5 a6 a7,L=[a0,a1,a2,a3,a4,a5,a6,a7]:=by
   match L,h8 with
   |[a0,a1,a2,a3,a4,a5,a6,a7],_=>exact⟨_,_,_,_,_,_,_,_,rfl⟩
  simp;simp only[AW,AA 320 11];simp[Ek,rB,AS,hroom,JF];simp only[AA 320 6];simp[w1];simpa[rB,Ivl.V,Ku]using hQ
 ·have h8':¬((L.length:Int)=8):=by omega
  have hE:=hE h8;have hdr:ca.drop 4=[]:=tn.2 (by omega);simp[h8'];simp only[AA 320 9];simp[EB hl,AS,HX hl];simp only[AA 320 10];simp[Ek,K2,rB,AS,Oi,AD,hca,hdr];exact hE [(4,.ref h.length 0)] rfl
theorem ax (lf:Int) (hlf:0≤lf) (ca:List D) (hca:ca.length=4) (op m:Int):∀(k:Nat) (s:RS) (ins:List Ivl),s.B→s.1.length≤2^44→ins.length+k≤32→
  awp Tryz.prog An (.loop (lG 320 0)) (λe st=>((Dc k s).2.2=true→e= .exit 0∧AF st.e 0= .ref r 0∧AF st.e 1= .ref lw 0∧AF st.e 4= .ref h.length 0∧AF st.e 5= .ref (h.length+1) 0∧AF st.e 6= .v (.int .i64 (ins.length+k:Nat))∧st.h=BB h r lw (Dc k s).2.1 lf (.cells ca) (rB op m (ins++(Dc k s).1) []))∧
    ((Dc k s).2.2=false→e= .ret∧AF st.e 4= .ref h.length 0∧st.h=BB h r lw (Dc k s).2.1 (-1) (rZ op m (ins++(Dc k s).1) []) (rB op m (ins++(Dc k s).1) [])))
   ⟨[(0,.ref r 0),(1,.ref lw 0),(4,.ref h.length 0),(5,.ref (h.length+1) 0),(6,.v (.int .i64 (ins.length+k:Nat))),(7,.v (.int .i64 ins.length))],BB h r lw s lf (.cells ca) (rB op m ins [])⟩:=by
 intro k;induction k with
 |zero=>
  intro s ins hB hsl hn;refine Aa ?_;simp only[Zw,BA 320 0,AA 320 5];simp[AJ,Dc]
 |succ k ih=>
  intro s ins hB hsl hn;have hsuf:=BN s;have hq:=gT hr hl hne (Q:=λe st=>match e with
   | .normal=>(Am s).1.length=8∧st=⟨[(0,.ref r 0),(1,.ref lw 0),(4,.ref h.length 0),(5,.ref (h.length+1) 0),(6,.v (.int .i64 (ins.length+(k+1):Nat))),(7,.v (.int .i64 (ins.length+1)))],BB h r lw (Am s).2 lf (.cells ca) (rB op m (ins++[Ku (Am s).1]) [])⟩
   | .ret=>(Am s).1.length≠8∧AF st.e 4= .ref h.length 0∧st.h=BB h r lw (Am s).2 (-1) (rZ op m ins []) (rB op m ins [])
   | .exit _=>False) s hB hsl lf hlf ca hca op m ins (ins.length+(k+1)) hn (by omega) (λh=>⟨h,rfl⟩) (λh e he=>⟨h,he,rfl⟩)
  by_cases h8:(Am s).1.length=8
  ·have h2:=ih (Am s).2 (ins++[Ku (Am s).1]) (hB.suf hsuf) (qo hsuf.length_le hsl) (by simp;omega);have eD:Dc (k+1) s=(Ku (Am s).1::(Dc k (Am s).2).1,(Dc k (Am s).2).2):=by rw[Dc,if_pos h8]
   rw[eD];have e1:(ins++[Ku (Am s).1]).length+k=ins.length+(k+1):=by simp;omega
   rw[e1]at h2;simp only[qg,tN]at h2;refine A5 (s1:=⟨[(0,.ref r 0),(1,.ref lw 0),(4,.ref h.length 0),(5,.ref (h.length+1) 0),(6,.v (.int .i64 (ins.length+(k+1):Nat))),(7,.v (.int .i64 (ins++[Ku (Am s).1]).length))],BB h r lw (Am s).2 lf (.cells ca) (rB op m (ins++[Ku (Am s).1]) [])⟩) (AZ _ (λe st hh=>?_) hq) h2;cases e with
   |normal=>rw[hh.2];simp
   |ret=>exact absurd h8 hh.1
   |exit i=>exact hh.elim
  ·have eD:Dc (k+1) s=([],(Am s).2,false):=by rw[Dc,if_neg h8]
   rw[eD];refine Aa (AZ _ (λe st hh=>?_) hq);cases e with
   |normal=>exact absurd hh.1 h8
   |ret=>exact⟨λh=>(by cases h),λ_=>⟨rfl,hh.2.1,by simpa using hh.2.2⟩⟩
   |exit i=>exact hh.elim
omit hr hne in
theorem ay (s:RS) (lf:Int) (h0:0≤lf) (s':RS) (lf':Int) (X:F) (a:Row) (op m:Int) (ins:List Ivl) (kids:List F) (n:Nat) (hn:n≤96) (hk:kids.length <n)
  (key:∀b,Row.low 0 b=true→FX 320 [.ref r 0,.ref lw 0] (BB h r lw s lf a b) [.v X.V] (BB h r lw s' lf' a b))
  (hQ:Q .normal ⟨[(0,.ref r 0),(1,.ref lw 0),(4,.ref h.length 0),(5,.ref (h.length+1) 0),(9,.v (.int .i64 n)),(10,.v (.int .i64 (kids.length+1)))],BB h r lw s' lf' a (rB op m ins (kids++[X]))⟩):
  awp Tryz.prog An (lG 320 1) Q ⟨[(0,.ref r 0),(1,.ref lw 0),(4,.ref h.length 0),(5,.ref (h.length+1) 0),(9,.v (.int .i64 n)),(10,.v (.int .i64 kids.length))],BB h r lw s lf a (rB op m ins kids)⟩:=by
 have w1:IntKind.i64.wrap ((kids.length:Int)+1)=kids.length+1:=AQ;have hroom:AK (kids.length+1) 64=true:=by simp[AK];omega
 simp only[Zw,BA 320 1,AA 320 16];simp[hk,h0,EB hl,AB];rw[CO];refine CT _ (λs hs=>⟨s,.inl rfl,hs⟩) ?_;simp only[AA 320 18];simp[Ek,rB,JF];obtain⟨cs,hcs,hcl⟩:∃cs,X.V= .agg cs∧cs.length=4:=by
  cases X;exact⟨_,F.V_eq _ _ _ _,rfl⟩
 have fin:Q .normal ⟨[(0,.ref r 0),(1,.ref lw 0),(4,.ref h.length 0),(5,.ref (h.length+1) 0),(9,.v (.int .i64 n)),(10,.v (.int .i64 (kids.length+1)))],BB h r lw s' lf' a (.cells [.v (.int .i64 op),.v (.int .i64 m),.own 368 8 (ins.map Ivl.V),.own 84 4 (kids.map F.V++[.agg cs])])⟩:=by
  have:=hQ;simpa[rB,hcs]using this
 constructor
 ·refine⟨_,_,key _ rfl,?_⟩;simp[hcs,hcl,hroom,Ek,JF];simp only[AA 320 17];simp[w1];exact fin
 ·refine⟨_,_,key _ rfl,?_⟩;simp[hcs,hcl,hroom,Ek,JF];simp only[AA 320 17];simp[w1];exact fin
omit hr hne in
theorem Xc (rd:RS→Int→F×RS×Int) (a:Row) (op m:Int) (ins:List Ivl) (L:Int)
  (hs:∀s l,s.B→(rd s l).2.1.1 <:+ s.1)
  (hrd:∀s l b,s.B→s.1.length≤2^44→0≤l→l≤L→Row.low 0 b=true→FX 320 [.ref r 0,.ref lw 0] (BB h r lw s l a b) [.v (rd s l).1.V] (BB h r lw (rd s l).2.1 (rd s l).2.2 a b))
  (hdec:∀s l,s.B→0≤(rd s l).2.2→(rd s l).2.2≤l):
  ∀(k:Nat) (s:RS) (lf N:Int) (kids:List F),s.B→s.1.length≤2^44→lf≤L→(0≤lf→N=((kids.length+k:Nat):Int))→(0≤lf→kids.length+k≤96)→
  awp Tryz.prog An (.loop (lG 320 1)) (λe st=>e= .exit 2∧AF st.e 4= .ref h.length 0∧AF st.e 5= .ref (h.length+1) 0∧st.h=BB h r lw (Cz rd k s lf).2.1 (Cz rd k s lf).2.2 a (rB op m ins (kids++(Cz rd k s lf).1)))
   ⟨[(0,.ref r 0),(1,.ref lw 0),(4,.ref h.length 0),(5,.ref (h.length+1) 0),(9,.v (.int .i64 N)),(10,.v (.int .i64 kids.length))],BB h r lw s lf a (rB op m ins kids)⟩:=by
 have stop:∀(s:RS) (lf N:Int) (kids:List F),lf <0∨N≤kids.length→awp Tryz.prog An (.loop (lG 320 1)) (λe st=>e= .exit 2∧AF st.e 4= .ref h.length 0∧AF st.e 5= .ref (h.length+1) 0∧st.h=BB h r lw s lf a (rB op m ins kids))
   ⟨[(0,.ref r 0),(1,.ref lw 0),(4,.ref h.length 0),(5,.ref (h.length+1) 0),(9,.v (.int .i64 N)),(10,.v (.int .i64 kids.length))],BB h r lw s lf a (rB op m ins kids)⟩:=by
  intro s lf N kids hc;refine Aa ?_;simp only[Zw,BA 320 1,AA 320 16];by_cases h1:(kids.length:Int) <N
  ·have h2:¬0≤lf:=by omega
   simp[h1,h2,EB hl,AJ]
  ·simp[h1,AJ]
 intro k;induction k with
 |zero=>
  intro s lf N kids hB hsl h95 hN hn;have:=stop s lf N kids (by by_cases h0:0≤lf;exact .inr (by have:=hN h0;omega);exact .inl (by omega));simpa[Cz]using this
 |succ k ih=>
  intro s lf N kids hB hsl h95 hN hn;by_cases h0:0≤lf
  ·have hN:=hN h0;have hn:=hn h0;have eD:Cz rd (k+1) s lf=((rd s lf).1::(Cz rd k (rd s lf).2.1 (rd s lf).2.2).1,(Cz rd k (rd s lf).2.1 (rd s lf).2.2).2):=by rw[Cz,if_neg (by omega)]
   have hsf:=hs s lf hB;have hdc:=hdec s lf hB;have h2:=ih (rd s lf).2.1 (rd s lf).2.2 N (kids++[(rd s lf).1]) (hB.suf hsf) (qo hsf.length_le hsl) (by omega) (λ_=>by rw[hN];simp;omega) (λ_=>by simp;omega);have hk:=λb hb=>hrd s lf b hB hsl h0 h95 hb;rw[eD];simp only[qg,tN]at h2;generalize rd s lf=R at*;obtain⟨M,hM⟩:∃M:Nat,N=M:=⟨kids.length+(k+1),hN⟩;subst hM;have hq:=ay hl (Q:=λe st=>match e with
    | .normal=>st=⟨[(0,.ref r 0),(1,.ref lw 0),(4,.ref h.length 0),(5,.ref (h.length+1) 0),(9,.v (.int .i64 M)),(10,.v (.int .i64 (kids.length+1)))],BB h r lw R.2.1 R.2.2 a (rB op m ins (kids++[R.1]))⟩
    |_=>False) s lf h0 R.2.1 R.2.2 R.1 a op m ins kids M (by omega) (by omega) hk rfl
   refine A5 (s1:=⟨[(0,.ref r 0),(1,.ref lw 0),(4,.ref h.length 0),(5,.ref (h.length+1) 0),(9,.v (.int .i64 M)),(10,.v (.int .i64 (kids++[R.1]).length))],BB h r lw R.2.1 R.2.2 a (rB op m ins (kids++[R.1]))⟩) (AZ _ (λe st hh=>?_) hq) h2;cases e with
   |normal=>rw[hh];simp
   |ret=>exact hh.elim
   |exit i=>exact hh.elim
  ·have eD:Cz rd (k+1) s lf=([],s,lf):=by rw[Cz,if_pos (by omega)]
   have:=stop s lf N kids (.inl (by omega));rw[eD];simpa using this
theorem az (lf:Int) (ca:List D) (hca:ca.length=4) (op m n:Int) (s:RS) (hB:s.B) (hsl:s.1.length≤2^44) (k:Nat) (hk:(if n≤32∧0≤lf then n.toNat else 0)=k):
  awp Tryz.prog An (.loop (lG 320 0)) (λe st=>((Dc k s).2.2=true→e= .exit 0∧AF st.e 0= .ref r 0∧AF st.e 1= .ref lw 0∧AF st.e 4= .ref h.length 0∧AF st.e 5= .ref (h.length+1) 0∧AF st.e 6= .v (.int .i64 n)∧st.h=BB h r lw (Dc k s).2.1 lf (.cells ca) (rB op m (Dc k s).1 []))∧
    ((Dc k s).2.2=false→e= .ret∧AF st.e 4= .ref h.length 0∧st.h=BB h r lw (Dc k s).2.1 (-1) (rZ op m (Dc k s).1 []) (rB op m (Dc k s).1 [])))
   ⟨[(0,.ref r 0),(1,.ref lw 0),(4,.ref h.length 0),(5,.ref (h.length+1) 0),(6,.v (.int .i64 n)),(7,.v (.int .i64 0))],BB h r lw s lf (.cells ca) (rB op m [] [])⟩:=by
 by_cases hc:(n≤32∧0≤lf)∧0 <n
 ·rw[if_pos hc.1]at hk;have h:=ax hr hl hne lf hc.1.2 ca hca op m k s [] hB hsl (by simp;omega);have e:((([]:List Ivl).length+k:Nat):Int)=n:=by simp;omega
  rw[e]at h;simpa using h
 ·have k0:k=0:=by
   rw[←hk];split<;>omega
  subst k0;refine Aa ?_;simp only[Zw,BA 320 0,AA 320 5];by_cases h1:0 <n
  ·by_cases h2:n≤32
   ·have h3:¬0≤lf:=by omega
    simp[h1,h2,h3,EB hl,AJ,Dc]
   ·simp[h1,h2,AJ,Dc]
  ·simp[h1,AJ,Dc]
end
end
section
def GC (h:List Row) (r lw:Nat) (x:RS) (lf:Int) (a:Row):List Row:=(h.set r x.row).set lw (.cells [.v (.int .i64 lf)])++[a]
variable {lw r:Nat} {h:List Row}
theorem Rd (hr:r <h.length) (hne:r≠lw) (x:RS) (lf:Int) (a:Row):(GC h r lw x lf a)[r]?=some x.row:=by
 unfold GC;rw[qe (by simpa using hr),qz (Ne.symm hne),rA (by simpa using hr)]
theorem UB (hr:r <h.length) (hne:r≠lw) (x y:RS) (lf:Int) (a:Row):(GC h r lw x lf a).set r y.row=GC h r lw y lf a:=by
 unfold GC;rw[rp _ _ (by simpa using hr),List.set_comm _ _ (Ne.symm hne),rI]
theorem Sf (x:RS) (lf:Int) (a:Row):(GC h r lw x lf a).length=h.length+1:=by simp[GC]
theorem Sg (x:RS) (lf:Int) (a b:Row):GC h r lw x lf a++[b]=BB h r lw x lf a b:=by simp[GC,BB]
theorem UC (hl:lw <h.length) {x:RS} (hr:h[r]?=some x.row) (lf:Int) (a:Row):(h++[a]).set lw (.cells [.v (.int .i64 lf)])=GC h r lw x lf a:=by
 unfold GC;rw[rp _ _ hl,F9 hr]
def Vq:AC:= .seq (.seq (.reg (oG 320 15) [0,1,4,5,9,10]) (.block 2 (.loop (lG 320 1)))) (.seq (.reg (oG 320 19) [4]) .ret)
theorem Xj:gA 320= .seq (.reg (oG 320 0) [0,1,4]) (.seq (.reg (oG 320 1) [0,1,4]) (.seq (.reg (oG 320 2) [0,1,4,5]) (.seq (.reg (oG 320 3) [0,1,4,5,6]) (.seq (.seq (.reg (oG 320 4) [0,1,4,5,6,7]) (.block 0 (.loop (lG 320 0)))) (.seq (.reg (oG 320 12) [0,1,4,5,6,9]) (.seq (.seq (.reg (oG 320 13) [0,1,4,5,9,99]) (.cond (.t 99 false) (.reg (oG 320 14) [0,1,4,5,9]) .skip)) Vq)))))):=(At 320 :)
variable {Q:AExit→St→Prop}
theorem gS (ca:List D) (hca:ca.length=4) (s s':RS) (lf lf' N:Int) (op m:Int) (ins:List Ivl) (kids:List F)
  (hK:awp Tryz.prog An (.loop (lG 320 1)) (λe st=>e= .exit 2∧AF st.e 4= .ref h.length 0∧AF st.e 5= .ref (h.length+1) 0∧st.h=BB h r lw s' lf' (.cells ca) (rB op m ins kids))
   ⟨[(0,.ref r 0),(1,.ref lw 0),(4,.ref h.length 0),(5,.ref (h.length+1) 0),(9,.v (.int .i64 N)),(10,.v (.int .i64 0))],BB h r lw s lf (.cells ca) (rB op m ins [])⟩)
  (hQ:∀e,AF e 4= .ref h.length 0→Q .ret ⟨e,BB h r lw s' lf' (rZ op m ins kids) (rB op m ins kids)⟩):
  awp Tryz.prog An Vq Q
   ⟨[(0,.ref r 0),(1,.ref lw 0),(4,.ref h.length 0),(5,.ref (h.length+1) 0),(9,.v (.int .i64 N))],BB h r lw s lf (.cells ca) (rB op m ins [])⟩:=by
 have hdr:ca.drop 4=[]:=tn.2 (by omega);simp only[Vq,AE,AG,AU,AA 320 15];simp;refine AZ _ ?_ hK;rintro e ⟨se,sh⟩ ⟨rfl,f4,f5,hh⟩;simp only at f4 f5 hh;subst hh;have h4:=hQ [(4,.ref h.length 0)] rfl;simp only[rZ,rB]at h4;simp[AA 320 19,f4,f5,Ek,K2,Oi,rB,AS,hca,hdr,AD];exact h4
theorem UJ:∀(fu:Nat) (s:RS) (l:Int) (h:List Row) (r lw:Nat),r <h.length→lw <h.length→r≠lw→Low h→s.B→s.1.length≤2^44→0≤l→l≤96→l+1≤fu→h[r]?=some s.row→h[lw]?=some (.cells [.v (.int .i64 l)])→
  FX 320 [.ref r 0,.ref lw 0] h [.v (dF fu s l).1.V] ((h.set r (dF fu s l).2.1.row).set lw (.cells [.v (.int .i64 (dF fu s l).2.2)]))
 |0,_,_,_,_,_,_,_,_,_,_,_,h0,_,hf,_,_=>by omega
 |fu+1,s,l,h,r,lw,hr,hl,hne,hlow,hB,hsl,h0,h96,hf,hhr,hhl=>by
  have hA:Row.low 0 (.cells [.v (.int .i64 0),.v (.int .i64 0),.own 368 8 [],.own 84 4 []])=true:=rfl;have g1:=Az [.cells [.v (.int .i64 0),.v (.int .i64 0),.own 368 8 [],.own 84 4 []]] hhl;have w1:IntKind.i64.wrap (l-1)=l-1:=AQ;have hm:=UC hl hhr (l-1) (.cells [.v (.int .i64 0),.v (.int .i64 0),.own 368 8 [],.own 84 4 []]);have q1:=λ(a:Row) (lf:Int)=>DW s hB (GC h r lw s lf a) r (Rd hr hne _ _ _);have b1:(Ad s).2.B:=hB.suf (Af s);have l1:=(Af s).length_le;have q2:=λ(a:Row) (lf:Int)=>DW (Ad s).2 b1 (GC h r lw (Ad s).2 lf a) r (Rd hr hne _ _ _);have b2:(Ad (Ad s).2).2.B:=b1.suf (Af _);have l2:=(Af (Ad s).2).length_le;have q3:=λ(a b:Row) (lf:Int)=>DW (Ad (Ad s).2).2 b2 (BB h r lw (Ad (Ad s).2).2 lf a b) r (K1 hr hne _ _ _ _);have b3:(Ad (Ad (Ad s).2).2).2.B:=b2.suf (Af _);have l3:=(Af (Ad (Ad s).2).2).length_le;simp only[UB hr hne,JE hr hne]at q1 q2 q3;rw[dF];simp only;generalize Ad (Ad (Ad s).2).2=n at*;generalize Ad (Ad s).2=nn at*;generalize Ad s=op at*;obtain⟨k,hk⟩:∃k,(if n.1≤32∧0≤l-1 then n.1.toNat else 0)=k:=⟨_,rfl⟩;have hI:=az hr hl hne (l-1) [.v (.int .i64 0),.v (.int .i64 0),.own 368 8 [],.own 84 4 []] rfl op.1 nn.1 n.1 n.2 b3 (by omega) k hk;rw[hk];obtain⟨i1,i2,i3⟩:=OH k n.2 b3;generalize Dc k n.2=iv at*;have b4:=b3.suf i3;have l4:=i3.length_le;have q4:=λ(a b:Row) (lf:Int)=>DW iv.2.1 b4 (BB h r lw iv.2.1 lf a b) r (K1 hr hne _ _ _ _);have b5:(Ad iv.2.1).2.B:=b4.suf (Af _);have l5:=(Af iv.2.1).length_le;simp only[JE hr hne]at q4;have hK:=λ(a:Row) (ha:Row.low 0 a=true) lf N=>Xc hl (dF fu) a op.1 nn.1 iv.1 (l-1) (λs l hs=>(Pz fu s l hs).2.1)
   (λs l' b hs hsl h0' hl' hb=>by
    have:=UJ fu s l' (BB h r lw s l' a b) r lw (by rw[Js];omega) (by rw[Js];omega) hne (Sv hlow ha hb) hs hsl h0' (by omega) (by omega) (K1 hr hne _ _ _ _) (EB hl _ _ _ _);rw[JE hr hne,HX hl]at this;exact this) (λs l hs h0=>by have:=(Pz fu s l hs).2.2 h0;omega) (Ad iv.2.1).1.toNat (Ad iv.2.1).2 lf N [] b5 (by omega)
  generalize Ad iv.2.1=k' at*;generalize hAA:Row.cells [.v (.int .i64 0),.v (.int .i64 0),.own 368 8 [],.own 84 4 []]=A at hA g1 hm hI;obtain⟨G,hG⟩:∃G,(if iv.2.2=true then (F.mk op.1 nn.1 iv.1 (Cz (dF fu) k'.1.toNat k'.2 (OT n.1 iv.1.length k'.1 (l-1))).1,(Cz (dF fu) k'.1.toNat k'.2 (OT n.1 iv.1.length k'.1 (l-1))).2) else (F.mk op.1 nn.1 iv.1 [],iv.2.1,-1))=G:=⟨_,rfl⟩;rw[hG];refine CW (KN 320) rfl (by simp) (by
   intro row hrow;simp only[rD];rcases rn hrow with hm|rfl
   ·rcases rn hm with hm|rfl
    ·exact hlow row hm
    ·rfl
   ·rfl) (by simp[D.lt]) ?_
  simp only[Zw,Xj,AA 320 0,AA 320 1,Ab];simp[hAA,g1,w1,AS,hm];simp only[AA 320 2];simp;refine⟨_,_,(q1 A (l-1)),?_⟩;simp;refine⟨_,_,(q2 A (l-1)),?_⟩;have hBB:Row.cells [.v (.int .i64 op.1),.v (.int .i64 nn.1),.own 368 8 [],.own 84 4 []]=rB op.1 nn.1 [] []:=rfl;simp[AS,Sf,Sg];simp only[AA 320 3];simp;refine⟨_,_,(q3 A _ (l-1)),?_⟩;simp only[AA 320 4];simp;rw[hBB];refine AZ _ ?_ hI;rintro e ⟨se,sh⟩ ⟨hT,hF⟩;cases hv:iv.2.2 with
  |false=>
   obtain⟨rfl,f4,hh⟩:=hF hv;simp only at f4 hh;subst hh;rw[hv]at hG;simp at hG;subst hG;simp[f4,K2,rZ,AX 320,F.V_eq,D.one?,D.vs?,D.v?];exact⟨_,rfl⟩
  |true=>
   obtain⟨rfl,f0,f1,f4,f5,f6,hh⟩:=hT hv;simp only at f0 f1 f4 f5 f6 hh;subst hh;rw[hv]at hG;simp at hG;simp;simp only[AA 320 12];simp[f0,f1,f4,f5,f6];refine⟨_,_,(q4 A _ (l-1)),?_⟩;simp only[AA 320 13];obtain⟨lf,hlf⟩:∃lf,OT n.1 iv.1.length k'.1 (l-1)=lf:=⟨_,rfl⟩;rw[hlf]at hG;have hK':=hK A hA lf k'.1 (by unfold OT at hlf;split at hlf<;>omega) (by
    intro h;unfold OT at hlf;split at hlf
    ·omega
    ·simp;omega) (by
    intro h;unfold OT at hlf;split at hlf
    ·omega
    ·simp;omega)
   generalize Cz (dF fu) k'.1.toNat k'.2 lf=ks at*;simp at hK';have hBB2:rB op.1 nn.1 iv.1 []= .cells [.v (.int .i64 op.1),.v (.int .i64 nn.1),.own 368 8 (iv.1.map Ivl.V),.own 84 4 []]:=rfl;have hca:Row.cells [.v (.int .i64 0),.v (.int .i64 0),.own 368 8 [],.own 84 4 []]=A:=hAA;subst hca;have tail:=gS (Q:=λe s=>(match e with| .exit _=>False|_=>True)∧DS s (gR 320)=some [.v G.1.V]∧∃J,s.h=(h.set r G.2.1.row).set lw (.cells [.v (.int .i64 G.2.2)])++J) _ rfl k'.2 ks.2.1 lf ks.2.2 k'.1 op.1 nn.1 iv.1 ks.1 hK' (by
    intro e f4;subst hG;refine⟨trivial,?_,?_⟩
    ·simp[f4,K2,rZ,AX 320,F.V_eq,D.one?,D.vs?,D.v?]
    ·exact⟨_,rfl⟩)
   simp only[hBB2]at tail;by_cases h1:n.1=iv.1.length
   ·by_cases h2:k'.1 <0
    ·have e:lf= -1:=by rw[←hlf];unfold OT;rw[if_pos (.inr (.inl h2))]
     subst e;simp[Ek,hBB2,h1,h2];simp only[AA 320 14];simp[EB hl,HX hl,AS];exact tail
    ·by_cases h3:l-1 <k'.1
     ·have e:lf= -1:=by rw[←hlf];unfold OT;rw[if_pos (.inr (.inr h3))]
      subst e;simp[Ek,EB hl,hBB2,h1,h2,h3];simp only[AA 320 14];simp[EB hl,HX hl,AS];exact tail
     ·have e:lf=l-1:=by rw[←hlf];unfold OT;rw[if_neg (by omega)]
      subst e;simp[Ek,EB hl,hBB2,h1,h2,h3,AB];exact tail
   ·have e:lf= -1:=by rw[←hlf];unfold OT;rw[if_pos (.inl h1)]
    subst e;simp[Ek,hBB2,h1];simp only[AA 320 14];simp[EB hl,HX hl,AS];exact tail
theorem YW (xs ys:List Int) (hb:xs.length≤2^45):PX 283 [AH .u8 xs,AH .u8 ys] [.bool (decide (xs=ys))]:=by
 refine BU 283 ?_;simp only[Zw,At 283,AA 283 0,AA 283 1,AV];by_cases hl:xs.length=ys.length
 ·simp[AH,hl,AB];simp only[AA 283 3];simp;refine Ao xs.length (λk=>⟨[(0,.v (AH .u8 xs)),(1,.v (AH .u8 ys)),(12,.v (.int .i64 xs.length)),(13,.v (.int .i64 k))],[]⟩) (λk=>xs.take k=ys.take k) (by simp[AH,hl]) (by simp) ?_;intro k hk hI;simp only[Zw,BA 283 0,AA 283 4];simp[AH];by_cases h1:k <xs.length
  ·have hx:xs[k]?=some xs[k]:=qH h1;have hy:ys[k]?=some (ys[k]'(by omega)):=qH (by omega);have hw:=Bo k;have e1:xs.take (k+1)=xs.take k++[xs[k]]:=by rw[qc,hx];rfl
   have e2:ys.take (k+1)=ys.take k++[ys[k]'(by omega)]:=by rw[qc,hy];rfl
   rw[if_pos (by omega),AB];simp only[AA 283 5];simp only[AW,AA 283 6];by_cases he:xs[k]=ys[k]'(by omega)
   ·simp[hx,hy,he,AB];simp only[AA 283 8];simp[hw,h1];rw[e1,e2,hI,he]
   ·simp[hx,hy,he];simp only[AA 283 7];simp[AD,AX 283];intro h;exact he (by simp[h])
  ·have:k=xs.length:=by omega
   subst this;rw[if_neg (by omega),AJ];have hI2:xs=ys:=by
    rw[qm,hl,qm]at hI;exact hI
   simp[AD,AA 283 9,AX 283,hI2]
 ·have hne:xs≠ys:=λh=>hl (by rw[h]);have hl':¬((xs.length:Int)=ys.length):=by omega
  simp[AH,hl'];simp only[AA 283 2];simp[AD,AX 283,hne]
end
end Go.Va
