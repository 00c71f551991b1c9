/- Laws, part 36. No condition. -/
import Derived.Test.YtbonllhdlmegeaaGreatDoorL32
set_option linter.all false
set_option maxRecDepth 100000
set_option maxHeartbeats 4000000
noncomputable section
namespace Go.Va
open Go.Proofs
section
variable {h:List Row} {r lw:Nat} (hr:r <h.length) (hl:lw <h.length) (hne:r≠lw) (x:List Int) (lf:Int) (a b:Row)
include hr hne
end
def rBy (op n:Int) (ins:List Ivl) (kids:List F):Row:= .cells [.v (.int .i64 op),.v (.int .i64 n),.own 190 8 (ins.map Ivl.V),.own 70 4 (kids.map F.V)]
theorem b01_eq (b:Bool):(b01 b==1)=b:=by cases b<;>rfl
theorem lts_mon2 {n m:Nat} (h:n≤m):∀ds:List D,D.lts n ds=true→D.lts m ds=true
 |[],_=>rfl
 |d::ds,hd=>by
  simp only[D.lts,Bool.and_eq_true]at hd ⊢;exact⟨dlt_mono h d hd.1,lts_mon2 h ds hd.2⟩
theorem low_mono {n m:Nat} (h:n≤m):∀row:Row,Row.low n row=true→Row.low m row=true:=by
 intro row hr;cases row with
 |cells ds=>exact lts_mon2 h ds hr
 |map=>rfl
 |dead=>rfl
 |obj=>simp[Row.low]at hr
def F.rd (f:F):Prop:=∀g∈f.nodes,g.ok1∧g.ins.length≤32
theorem F.rd_kid {op n:Int} {ins:List Ivl} {kids:List F} (h:(F.mk op n ins kids).rd) {k:F} (hk:k∈kids):k.rd:=λg hg=>h g (by
 rw[F.nodes_eq];exact List.mem_cons_of_mem _ (List.mem_flatMap.2 ⟨k,hk,hg⟩))
theorem encF_mk (op n:Int) (ins:List Ivl) (kids:List F):encF (.mk op n ins kids)=encNode (.mk op n ins kids)++kids.flatMap encF:=by
 unfold encF;rw[F.nodes_eq,List.flatMap_cons,List.flatMap_assoc]
theorem spanE_len {l:List Ivl} (h:spanE l=0):l.length≤32:=by
 unfold spanE at h;split at h
 ·cases h
 ·split at h
  ·cases h
  ·omega
theorem formE_size {f:F} (h:formE f=0):f.size≤96:=by
 unfold formE at h;split at h
 ·cases h
 ·omega
theorem formE_rd {f:F} (hok:f.ok) (h:formE f=0):f.rd:=by
 intro g hg;refine⟨hok.1 g hg,?_⟩;unfold formE at h;split at h
 ·cases h
 ·split at h
  ·rename_i ha;have:=List.all_eq_true.1 ha g hg;unfold formedF at this;split at this
   ·cases this
   ·rename_i hn;by_cases h2:g.op=2
    ·simp[h2]at this;exact spanE_len this.2.2.2
    ·have:¬0 <g.ins.length:=λhh=>hn (.inl ⟨h2,hh⟩);omega
  ·cases h
theorem encF_len_mem {l:List Clm} {c:Clm} (hc:c∈l):(encF c.body).length≤(encClms l).length:=by
 unfold encClms;have:(encClm c).length≤(l.flatMap encClm).length:=by
  induction l with
  |nil=>cases hc
  |cons x l ih=>
   simp only[List.flatMap_cons,List.length_append];rcases List.mem_cons.1 hc with rfl|hc
   ·omega
   ·have:=ih hc;omega
 simp only[encClm,encRaw,List.length_append]at this ⊢;omega
def ivOf (l:List Int):Ivl:=⟨l.getD 0 0,l.getD 1 0,l.getD 2 0,l.getD 3 0,l.getD 4 0==1,l.getD 5 0==1,l.getD 6 0==1,l.getD 7 0==1⟩
def dIvs:Nat→RS→List Ivl×RS×Bool
 |0,s=>([],s,true)
 |n+1,s=>if (rInts s).1.length=8 then (ivOf (rInts s).1::(dIvs n (rInts s).2).1,(dIvs n (rInts s).2).2) else ([],(rInts s).2,false)
def dKids (rd:RS→Int→F×RS×Int):Nat→RS→Int→List F×RS×Int
 |0,s,l=>([],s,l)
 |n+1,s,l=>if l <0 then ([],s,l) else ((rd s l).1::(dKids rd n (rd s l).2.1 (rd s l).2.2).1,(dKids rd n (rd s l).2.1 (rd s l).2.2).2)
def lf2 (n:Int) (m:Nat) (k l:Int):Int:=if n≠m∨k <0∨l <k then -1 else l
def dF:Nat→RS→Int→F×RS×Int
 |0,s,_=>(.mk 0 0 [] [],s,-1)
 |fu+1,s,l=>
  let op:=rInt s
  let nn:=rInt op.2
  let n:=rInt nn.2
  let iv:=dIvs (if n.1≤32∧0≤l-1 then n.1.toNat else 0) n.2
  if iv.2.2=true then
   let k:=rInt iv.2.1
   let ks:=dKids (dF fu) k.1.toNat k.2 (lf2 n.1 iv.1.length k.1 (l-1))
   (.mk op.1 nn.1 iv.1 ks.1,ks.2)
  else (.mk op.1 nn.1 iv.1 [],iv.2.1,-1)
def dFm (b:List Int):Option F:=
 let x:=dF 97 (b,0) 96
 if x.2.2 <0∨rEnd x.2.1≠0 then none else if formE x.1=0∧encF x.1=b then some x.1 else none
theorem ivOf_of (x:Ivl):ivOf [x.ln,x.ld,x.hn,x.hd,b01 x.lo,b01 x.ho,b01 x.li,b01 x.hi]=x:=by
 simp[ivOf,b01_eq]
theorem dIvs_of:∀(l:List Ivl) (rest:List Int),(∀x∈l,x.ok)→dIvs l.length (l.flatMap encIvl++rest,0)=(l,(rest,0),true)
 |[],rest,_=>rfl
 |x::l,rest,h=>by
  have e:=rInts_of (xs:=[x.ln,x.ld,x.hn,x.hd,b01 x.lo,b01 x.ho,b01 x.li,b01 x.hi]) (ivl_i64 (h x (by simp))) (by simp) (l.flatMap encIvl++rest);rw[List.length_cons,List.flatMap_cons,List.append_assoc,dIvs,encIvl,e,if_pos (by rfl),ivOf_of,dIvs_of l rest λy hy=>h y (by simp[hy])]
theorem dKids_of {rd:RS→Int→F×RS×Int} {L:Int}:∀(l:List F) (rest:List Int) (m:Int),(∀x∈l,∀rest m,(x.size:Int)≤m→m≤L→rd (encF x++rest,0) m=(x,(rest,0),m-x.size))→((l.map F.size).sum:Int)≤m→m≤L→
  dKids rd l.length (l.flatMap encF++rest,0) m=(l,(rest,0),m-(l.map F.size).sum)
 |[],rest,m,_,_,_=>by simp[dKids]
 |x::l,rest,m,h,hs,hL=>by
  simp only[List.map_cons,List.sum_cons,Int.natCast_add]at hs;rw[List.length_cons,List.flatMap_cons,List.append_assoc,dKids,if_neg (by omega),h x (by simp) _ m (by omega) hL,dKids_of l rest _ (λy hy=>h y (by simp[hy])) (by simp only;omega) (by simp only;omega)];simp only[List.map_cons,List.sum_cons,Int.natCast_add,Int.sub_sub]
theorem dF_of:∀(fu:Nat) (f:F) (rest:List Int) (l:Int),f.rd→(f.size:Int)≤l→l≤fu→l≤96→dF fu (encF f++rest,0) l=(f,(rest,0),l-f.size)
 |0,f,rest,l,_,h1,h2,_=>by have:=f.size_pos;omega
 |fu+1,.mk op n ins kids,rest,l,hrd,h1,h2,h96=>by
  have hse:=F.size_eq op n ins kids;have hkl:=F.kids_len kids;obtain⟨⟨o1,o2,o3,o4⟩,hi32⟩:=hrd (.mk op n ins kids) (by rw[F.nodes_eq];simp);simp only[F.op,F.n,F.ins]at o1 o2 o3 hi32;have hE:encF (.mk op n ins kids)++rest=encI op++(encI n++(encI ins.length++(ins.flatMap encIvl++(encI kids.length++(kids.flatMap encF++rest))))):=by rw[encF_mk];simp[encNode,F.op,F.n,F.ins,F.kids]
  have hk:=dKids_of (rd:=dF fu) (L:=l-1) kids rest (l-1) (λx hx rest m hm hL=>dF_of fu x rest m (F.rd_kid hrd hx) hm (by omega) (by omega)) (by omega) (Int.le_refl _);rw[hE];have e4:(if ((ins.length:Nat):Int)≤32∧0≤l-1 then ins.length else 0)=ins.length:=by rw[if_pos (by omega)]
  have e5:lf2 (ins.length:Int) ins.length (kids.length:Int) (l-1)=l-1:=by unfold lf2;rw[if_neg (by omega)]
  simp only[dF,rInt_of o1,rInt_of o2,rInt_of (show i64 (ins.length:Int) by unfold i64;omega),Int.toNat_natCast,e4,dIvs_of ins _ o3,if_true,rInt_of (show i64 (kids.length:Int) by unfold i64;omega),e5,hk];rw[hse];have:l-1-((kids.map F.size).sum:Nat)=l-((1+(kids.map F.size).sum:Nat):Int):=by omega
  rw[this]
theorem ivOf_ok {l:List Int} (h:∀x∈l,i64 x):(ivOf l).ok:=by
 have key:∀i,i64 (l.getD i 0):=by
  intro i;rw[List.getD_eq_getElem?_getD];cases hx:l[i]? with
  |none=>unfold i64;simp
  |some x=>exact h x (List.mem_of_getElem? hx)
 exact⟨key 0,key 1,key 2,key 3⟩
theorem dIvs_ok:∀(n:Nat) (s:RS),s.B→(∀x∈(dIvs n s).1,x.ok)∧(dIvs n s).1.length≤n∧(dIvs n s).2.1.1 <:+ s.1
 |0,s,_=>⟨(λx hx=>by cases hx),Nat.le_refl _,List.suffix_refl _⟩
 |n+1,s,h=>by
  have hi:=rInts_ok s h;have hs:=rInts_suf s;rw[dIvs];split
  ·obtain⟨h1,h2,h3⟩:=dIvs_ok n (rInts s).2 (h.suf hs);refine⟨λx hx=>?_,by simp only[List.length_cons];omega,h3.trans hs⟩;rcases List.mem_cons.1 hx with rfl|hx
   ·exact ivOf_ok hi.2
   ·exact h1 x hx
  ·exact⟨(λx hx=>by cases hx),Nat.zero_le _,hs⟩
theorem dKids_ok {rd:RS→Int→F×RS×Int} {p:F→Prop} (hrd:∀s l,s.B→p (rd s l).1∧(rd s l).2.1.1 <:+ s.1∧(0≤(rd s l).2.2→((rd s l).1.size:Int)=l-(rd s l).2.2)):
  ∀(n:Nat) (s:RS) (l:Int),s.B→(∀x∈(dKids rd n s l).1,p x)∧(dKids rd n s l).2.1.1 <:+ s.1∧(0≤(dKids rd n s l).2.2→((((dKids rd n s l).1.map F.size).sum:Nat):Int)=l-(dKids rd n s l).2.2)
 |0,s,l,_=>⟨(λx hx=>by cases hx),List.suffix_refl _,λh=>by simp[dKids]⟩
 |n+1,s,l,hB=>by
  rw[dKids];split
  ·exact⟨(λx hx=>by cases hx),List.suffix_refl _,λh=>by rename_i hl;exact absurd h (by simpa using hl)⟩
  ·obtain⟨r1,r2,r3⟩:=hrd s l hB;obtain⟨k1,k2,k3⟩:=dKids_ok hrd n (rd s l).2.1 (rd s l).2.2 (hB.suf r2);refine⟨λx hx=>?_,k2.trans r2,λh=>?_⟩
   ·rcases List.mem_cons.1 hx with rfl|hx
    ·exact r1
    ·exact k1 x hx
   ·have h1:=k3 h;have h0:0≤(rd s l).2.2:=by
     have:=Int.natCast_nonneg (((dKids rd n (rd s l).2.1 (rd s l).2.2).1.map F.size).sum);simp only at h;omega
    have h2:=r3 h0;simp only[List.map_cons,List.sum_cons,Int.natCast_add];omega
theorem dF_ok:∀(fu:Nat) (s:RS) (l:Int),s.B→(dF fu s l).1.rd∧(dF fu s l).2.1.1 <:+ s.1∧(0≤(dF fu s l).2.2→((dF fu s l).1.size:Int)=l-(dF fu s l).2.2)
 |0,s,l,_=>by
  refine⟨λg hg=>?_,List.suffix_refl _,λh=>absurd h (by show ¬(0:Int)≤ -1;decide)⟩;have:g= .mk 0 0 [] []:=by simpa[dF,F.nodes_eq]using hg
  subst this;exact⟨⟨by unfold i64;simp[F.op],by unfold i64;simp[F.n],by simp[F.ins],by simp[F.ins]⟩,by simp[F.ins]⟩
 |fu+1,s,l,hB=>by
  rw[dF];obtain⟨op,hop⟩:∃op,rInt s=op:=⟨_,rfl⟩;obtain⟨nn,hnn⟩:∃nn,rInt op.2=nn:=⟨_,rfl⟩;obtain⟨n,hn⟩:∃n,rInt nn.2=n:=⟨_,rfl⟩;have o1:i64 op.1:=hop▸rInt_i64 s hB;have b1:op.2.B:=hop▸hB.suf (rInt_suf s);have u1:op.2.1 <:+ s.1:=hop▸rInt_suf s;have o2:i64 nn.1:=hnn▸rInt_i64 _ b1;have b2:nn.2.B:=hnn▸b1.suf (rInt_suf _);have u2:nn.2.1 <:+ op.2.1:=hnn▸rInt_suf _;have b3:n.2.B:=hn▸b2.suf (rInt_suf _);have u3:n.2.1 <:+ nn.2.1:=hn▸rInt_suf _;simp only[hop,hnn,hn];obtain⟨m,hm⟩:∃m,(if n.1≤32∧0≤l-1 then n.1.toNat else 0)=m:=⟨_,rfl⟩;have hm32:m≤32:=by rw[←hm];split<;>omega
  rw[hm];obtain⟨i1,i2,i3⟩:=dIvs_ok m n.2 b3;generalize dIvs m n.2=iv at*;have hu:iv.2.1.1 <:+ s.1:=i3.trans (u3.trans (u2.trans u1));split
  ·obtain⟨k1,k2,k3⟩:=dKids_ok (p:=F.rd) (λs l hB=>dF_ok fu s l hB) (rInt iv.2.1).1.toNat (rInt iv.2.1).2 (lf2 n.1 iv.1.length (rInt iv.2.1).1 (l-1)) ((hB.suf hu).suf (rInt_suf _));have hl2:lf2 n.1 iv.1.length (rInt iv.2.1).1 (l-1) <0∨lf2 n.1 iv.1.length (rInt iv.2.1).1 (l-1)=l-1:=by unfold lf2;split<;>simp
   generalize lf2 n.1 iv.1.length (rInt iv.2.1).1 (l-1)=l2 at*;generalize dKids (dF fu) (rInt iv.2.1).1.toNat (rInt iv.2.1).2 l2=ks at*;refine⟨λg hg=>?_,k2.trans ((rInt_suf _).trans hu),λh=>?_⟩
   ·rw[F.nodes_eq]at hg;rcases List.mem_cons.1 hg with rfl|hg
    ·exact⟨⟨o1,o2,i1,by simp only[F.ins];omega⟩,by simp only[F.ins];omega⟩
    ·obtain⟨x,hx,hg⟩:=List.mem_flatMap.1 hg;exact k1 x hx g hg
   ·have h1:=k3 h;have h0:=Int.natCast_nonneg ((ks.1.map F.size).sum);rw[F.size_eq];simp only[Int.natCast_add]at*;omega
  ·refine⟨λg hg=>?_,hu,λh=>absurd h (by show ¬(0:Int)≤ -1;decide)⟩;rw[F.nodes_eq]at hg;simp only[List.flatMap_nil,List.mem_singleton]at hg;subst hg;exact⟨⟨o1,o2,i1,by simp only[F.ins];omega⟩,by simp only[F.ins];omega⟩
theorem dFm_of {f:F} (hok:f.ok) (hE:formE f=0):dFm (encF f)=some f:=by
 have hsz:=formE_size hE;have h:=dF_of 97 f [] 96 (formE_rd hok hE) (by omega) (by decide) (by decide);rw[List.append_nil]at h;unfold dFm;simp only[h];rw[if_neg (by simp[rEnd];omega),if_pos ⟨hE,trivial⟩]
theorem dFm_ok {b:List Int} {f:F} (hB:∀x∈b,0≤x∧x <256) (h:dFm b=some f):f.ok∧formE f=0∧encF f=b:=by
 unfold dFm at h;obtain⟨k1,k2,k3⟩:=dF_ok 97 (b,0) 96 hB;generalize dF 97 (b,0) 96=x at*;simp only at h;split at h
 ·cases h
 ·rename_i hc;split at h
  ·rename_i hd;simp only[Option.some.injEq]at h;subst h;have:=k3 (by omega);exact⟨⟨λg hg=>(k1 g hg).1,by omega⟩,hd.1,hd.2⟩
  ·cases h
def rowsQ (h:List Row) (r lw:Nat) (x:RS) (lf:Int) (a b:Row):List Row:=(h.set r x.row).set lw (.cells [.v (.int .i64 lf)])++[a,b]
section
variable {h:List Row} {r lw:Nat} (hr:r <h.length) (hl:lw <h.length) (hne:r≠lw) (x:RS) (lf:Int) (a b:Row)
include hr hne
theorem rowsQ_r:(rowsQ h r lw x lf a b)[r]?=some x.row:=by
 unfold rowsQ;rw[List.getElem?_append_left (by simpa using hr),List.getElem?_set_ne (Ne.symm hne),List.getElem?_set_self (by simpa using hr)]
omit hr hne in
include hl in
theorem rowsQ_l:(rowsQ h r lw x lf a b)[lw]?=some (.cells [.v (.int .i64 lf)]):=by
 unfold rowsQ;rw[List.getElem?_append_left (by simpa using hl),List.getElem?_set_self (by simpa using hl)]
omit hr hne in
theorem rowsQ_a:(rowsQ h r lw x lf a b)[h.length]?=some a:=by
 unfold rowsQ;rw[List.getElem?_append_right (by simp)];simp
omit hr hne in
theorem rowsQ_b:(rowsQ h r lw x lf a b)[h.length+1]?=some b:=by
 unfold rowsQ;rw[List.getElem?_append_right (by simp)];simp
theorem rowsQ_sr (y:RS):(rowsQ h r lw x lf a b).set r y.row=rowsQ h r lw y lf a b:=by
 unfold rowsQ;rw[List.set_append_left _ _ (by simpa using hr),List.set_comm _ _ (Ne.symm hne),List.set_set]
omit hr hne in
include hl in
theorem rowsQ_sl (m:Int):(rowsQ h r lw x lf a b).set lw (.cells [.v (.int .i64 m)])=rowsQ h r lw x m a b:=by
 unfold rowsQ;rw[List.set_append_left _ _ (by simpa using hl),List.set_set]
omit hr hne in
theorem rowsQ_sa (c:Row):(rowsQ h r lw x lf a b).set h.length c=rowsQ h r lw x lf c b:=by
 unfold rowsQ;rw[List.set_append_right _ _ (by simp)];simp
omit hr hne in
theorem rowsQ_sb (c:Row):(rowsQ h r lw x lf a b).set (h.length+1) c=rowsQ h r lw x lf a c:=by
 unfold rowsQ;rw[List.set_append_right _ _ (by simp)];simp
omit hr hne in
theorem rowsQ_len:(rowsQ h r lw x lf a b).length=h.length+2:=by simp[rowsQ]
end
theorem low_rowsQ {h:List Row} {r lw:Nat} {x:RS} {lf:Int} {a b:Row} (hl:Low h) (ha:Row.low 0 a=true) (hb:Row.low 0 b=true):Low (rowsQ h r lw x lf a b):=by
 intro row hrow;rw[rowsQ_len];unfold rowsQ at hrow;rcases List.mem_append.1 hrow with hm|hm
 ·rcases List.mem_or_eq_of_mem_set hm with hm|rfl
  ·rcases List.mem_or_eq_of_mem_set hm with hm|rfl
   ·exact low_mono (by omega) row (hl row hm)
   ·rfl
  ·rfl
 ·simp only[List.mem_cons,List.not_mem_nil,or_false]at hm;rcases hm with rfl|rfl
  ·exact low_mono (by omega) _ ha
  ·exact low_mono (by omega) _ hb
def rZ (op m:Int) (ins:List Ivl) (kids:List F):Row:= .cells [.v (.int .i64 op),.v (.int .i64 m),.v (.list (ins.map Ivl.V)),.v (.list (kids.map F.V))]
section
variable {h:List Row} {r lw:Nat} (hr:r <h.length) (hl:lw <h.length) (hne:r≠lw)
include hr hl hne
theorem d320q {Q:AExit→St→Prop} (s:RS) (hB:s.B) (hsl:s.1.length≤2^44) (lf:Int) (hlf:0≤lf) (ca:List D) (hca:ca.length=4) (op m:Int) (ins:List Ivl) (n:Nat) (hn:n≤32) (hk:ins.length <n)
  (hQ:(rInts s).1.length=8→Q .normal ⟨[(0,.ref r 0),(1,.ref lw 0),(4,.ref h.length 0),(5,.ref (h.length+1) 0),(6,.v (.int .i64 n)),(7,.v (.int .i64 (ins.length+1)))],rowsQ h r lw (rInts s).2 lf (.cells ca) (rBy op m (ins++[ivOf (rInts s).1]) [])⟩)
  (hE:(rInts s).1.length≠8→∀e,find e 4= .ref h.length 0→Q .ret ⟨e,rowsQ h r lw (rInts s).2 (-1) (rZ op m ins []) (rBy op m ins [])⟩):
  awp Tryz.prog GLx (lG 128 0) Q ⟨[(0,.ref r 0),(1,.ref lw 0),(4,.ref h.length 0),(5,.ref (h.length+1) 0),(6,.v (.int .i64 n)),(7,.v (.int .i64 ins.length))],rowsQ h r lw s lf (.cells ca) (rBy op m ins [])⟩:=by
 have k1:(n:Int)≤32:=by omega
 have p1:=p114e s hB hsl (rowsQ h r lw s lf (.cells ca) (rBy op m ins [])) r (rowsQ_r hr hne _ _ _ _);rw[rowsQ_sr hr hne]at p1;generalize (rInts s).1=L at*;generalize (rInts s).2=s' at*;simp only[Zgl 128 0,awp_seq,awp_reg,awp_block,awp_cond,Zge 128 5];simp[hk,k1,hlf,rowsQ_l hl,awp_skip];simp only[Zge 128 7];simp;refine⟨_,_,p1,?_⟩;simp only[Zge 128 8];by_cases h8:L.length=8
 ·have hroom:roomy (ins.length+1) 40=true:=by simp[roomy];omega
  have w1:IntKind.i64.wrap ((ins.length:Int)+1)=ins.length+1:=wrap_i64 (by omega) (by omega);have hQ:=hQ h8;obtain⟨a0,a1,a2,a3,a4,a5,a6,a7,rfl⟩:∃a0 a1 a2 a3 a4 a5 a6 a7,L=[a0,a1,a2,a3,a4,a5,a6,a7]:=by
   match L,h8 with
   |[a0,a1,a2,a3,a4,a5,a6,a7],_=>exact⟨_,_,_,_,_,_,_,_,rfl⟩
  simp;simp only[awp_regD,Zge 128 11];simp[rowsQ_b,rBy,putL,hroom,rowsQ_sb];simp only[Zge 128 6];simp[w1];simpa[rBy,Ivl.V,ivOf]using hQ
 ·have h8':¬((L.length:Int)=8):=by omega
  have hE:=hE h8;have hdr:ca.drop 4=[]:=List.drop_eq_nil_iff.2 (by omega);simp[h8'];simp only[Zge 128 9];simp[rowsQ_l hl,putL,rowsQ_sl hl];simp only[Zge 128 10];simp[rowsQ_b,rowsQ_a,rBy,putL,rowsQ_sa,awp_ret,hca,hdr];exact hE [(4,.ref h.length 0)] rfl
theorem d320qs (lf:Int) (hlf:0≤lf) (ca:List D) (hca:ca.length=4) (op m:Int):∀(k:Nat) (s:RS) (ins:List Ivl),s.B→s.1.length≤2^44→ins.length+k≤32→
  awp Tryz.prog GLx (.loop (lG 128 0)) (λe st=>((dIvs k s).2.2=true→e= .exit 0∧find st.e 0= .ref r 0∧find st.e 1= .ref lw 0∧find st.e 4= .ref h.length 0∧find st.e 5= .ref (h.length+1) 0∧find st.e 6= .v (.int .i64 (ins.length+k:Nat))∧st.h=rowsQ h r lw (dIvs k s).2.1 lf (.cells ca) (rBy op m (ins++(dIvs k s).1) []))∧
    ((dIvs k s).2.2=false→e= .ret∧find st.e 4= .ref h.length 0∧st.h=rowsQ h r lw (dIvs k s).2.1 (-1) (rZ op m (ins++(dIvs k s).1) []) (rBy op m (ins++(dIvs k s).1) [])))
   ⟨[(0,.ref r 0),(1,.ref lw 0),(4,.ref h.length 0),(5,.ref (h.length+1) 0),(6,.v (.int .i64 (ins.length+k:Nat))),(7,.v (.int .i64 ins.length))],rowsQ h r lw s lf (.cells ca) (rBy op m ins [])⟩:=by
 intro k;induction k with
 |zero=>
  intro s ins hB hsl hn;refine awp_loop_end ?_;simp only[Zgl 128 0,awp_seq,awp_reg,awp_block,awp_cond,Zge 128 5];simp[awp_exit,dIvs]
 |succ k ih=>
  intro s ins hB hsl hn;have hsuf:=rInts_suf s;have hq:=d320q hr hl hne (Q:=λe st=>match e with
   | .normal=>(rInts s).1.length=8∧st=⟨[(0,.ref r 0),(1,.ref lw 0),(4,.ref h.length 0),(5,.ref (h.length+1) 0),(6,.v (.int .i64 (ins.length+(k+1):Nat))),(7,.v (.int .i64 (ins.length+1)))],rowsQ h r lw (rInts s).2 lf (.cells ca) (rBy op m (ins++[ivOf (rInts s).1]) [])⟩
   | .ret=>(rInts s).1.length≠8∧find st.e 4= .ref h.length 0∧st.h=rowsQ h r lw (rInts s).2 (-1) (rZ op m ins []) (rBy op m ins [])
   | .exit _=>False) s hB hsl lf hlf ca hca op m ins (ins.length+(k+1)) hn (by omega) (λh=>⟨h,rfl⟩) (λh e he=>⟨h,he,rfl⟩)
  by_cases h8:(rInts s).1.length=8
  ·have h2:=ih (rInts s).2 (ins++[ivOf (rInts s).1]) (hB.suf hsuf) (Nat.le_trans hsuf.length_le hsl) (by simp;omega);have eD:dIvs (k+1) s=(ivOf (rInts s).1::(dIvs k (rInts s).2).1,(dIvs k (rInts s).2).2):=by rw[dIvs,if_pos h8]
   rw[eD];have e1:(ins++[ivOf (rInts s).1]).length+k=ins.length+(k+1):=by simp;omega
   rw[e1]at h2;simp only[List.append_assoc,List.singleton_append]at h2;refine awp_loop_one (s1:=⟨[(0,.ref r 0),(1,.ref lw 0),(4,.ref h.length 0),(5,.ref (h.length+1) 0),(6,.v (.int .i64 (ins.length+(k+1):Nat))),(7,.v (.int .i64 (ins++[ivOf (rInts s).1]).length))],rowsQ h r lw (rInts s).2 lf (.cells ca) (rBy op m (ins++[ivOf (rInts s).1]) [])⟩) (awp_mono _ (λe st hh=>?_) hq) h2;cases e with
   |normal=>rw[hh.2];simp
   |ret=>exact absurd h8 hh.1
   |exit i=>exact hh.elim
  ·have eD:dIvs (k+1) s=([],(rInts s).2,false):=by rw[dIvs,if_neg h8]
   rw[eD];refine awp_loop_end (awp_mono _ (λe st hh=>?_) hq);cases e with
   |normal=>exact absurd hh.1 h8
   |ret=>exact⟨λh=>(by cases h),λ_=>⟨rfl,hh.2.1,by simpa using hh.2.2⟩⟩
   |exit i=>exact hh.elim
omit hr hne in
theorem d320qk {Q:AExit→St→Prop} (s:RS) (lf:Int) (h0:0≤lf) (s':RS) (lf':Int) (X:F) (a:Row) (op m:Int) (ins:List Ivl) (kids:List F) (n:Nat) (hn:n≤96) (hk:kids.length <n)
  (key:∀b,Row.low 0 b=true→FSp Tryz.prog GLx 128 [.ref r 0,.ref lw 0] (rowsQ h r lw s lf a b) [.v X.V] (rowsQ h r lw s' lf' a b))
  (hQ:Q .normal ⟨[(0,.ref r 0),(1,.ref lw 0),(4,.ref h.length 0),(5,.ref (h.length+1) 0),(9,.v (.int .i64 n)),(10,.v (.int .i64 (kids.length+1)))],rowsQ h r lw s' lf' a (rBy op m ins (kids++[X]))⟩):
  awp Tryz.prog GLx (lG 128 1) Q ⟨[(0,.ref r 0),(1,.ref lw 0),(4,.ref h.length 0),(5,.ref (h.length+1) 0),(9,.v (.int .i64 n)),(10,.v (.int .i64 kids.length))],rowsQ h r lw s lf a (rBy op m ins kids)⟩:=by
 have w1:IntKind.i64.wrap ((kids.length:Int)+1)=kids.length+1:=wrap_i64 (by omega) (by omega);have hroom:roomy (kids.length+1) 64=true:=by simp[roomy];omega
 simp only[Zgl 128 1,awp_seq,awp_reg,awp_block,awp_cond,Zge 128 16];simp[hk,h0,rowsQ_l hl,awp_skip];rw[awp_regA];refine atok_mono _ (λs hs=>⟨s,.inl rfl,hs⟩) ?_;simp only[Zge 128 18];simp[rowsQ_b,rBy,rowsQ_sb];obtain⟨cs,hcs,hcl⟩:∃cs,X.V= .agg cs∧cs.length=4:=by
  cases X;exact⟨_,F.V_eq _ _ _ _,rfl⟩
 have fin:Q .normal ⟨[(0,.ref r 0),(1,.ref lw 0),(4,.ref h.length 0),(5,.ref (h.length+1) 0),(9,.v (.int .i64 n)),(10,.v (.int .i64 (kids.length+1)))],rowsQ h r lw s' lf' a (.cells [.v (.int .i64 op),.v (.int .i64 m),.own 190 8 (ins.map Ivl.V),.own 70 4 (kids.map F.V++[.agg cs])])⟩:=by
  have:=hQ;simpa[rBy,hcs]using this
 constructor
 ·refine⟨_,_,key _ rfl,?_⟩;simp[hcs,hcl,hroom,rowsQ_b,rowsQ_sb];simp only[Zge 128 17];simp[w1];exact fin
 ·refine⟨_,_,key _ rfl,?_⟩;simp[hcs,hcl,hroom,rowsQ_b,rowsQ_sb];simp only[Zge 128 17];simp[w1];exact fin
omit hr hne in
theorem d320qks (rd:RS→Int→F×RS×Int) (a:Row) (op m:Int) (ins:List Ivl) (L:Int)
  (hs:∀s l,s.B→(rd s l).2.1.1 <:+ s.1)
  (hrd:∀s l b,s.B→s.1.length≤2^44→0≤l→l≤L→Row.low 0 b=true→FSp Tryz.prog GLx 128 [.ref r 0,.ref lw 0] (rowsQ h r lw s l a b) [.v (rd s l).1.V] (rowsQ h r lw (rd s l).2.1 (rd s l).2.2 a b))
  (hdec:∀s l,s.B→0≤(rd s l).2.2→(rd s l).2.2≤l):
  ∀(k:Nat) (s:RS) (lf N:Int) (kids:List F),s.B→s.1.length≤2^44→lf≤L→(0≤lf→N=((kids.length+k:Nat):Int))→(0≤lf→kids.length+k≤96)→
  awp Tryz.prog GLx (.loop (lG 128 1)) (λe st=>e= .exit 2∧find st.e 4= .ref h.length 0∧find st.e 5= .ref (h.length+1) 0∧st.h=rowsQ h r lw (dKids rd k s lf).2.1 (dKids rd k s lf).2.2 a (rBy op m ins (kids++(dKids rd k s lf).1)))
   ⟨[(0,.ref r 0),(1,.ref lw 0),(4,.ref h.length 0),(5,.ref (h.length+1) 0),(9,.v (.int .i64 N)),(10,.v (.int .i64 kids.length))],rowsQ h r lw s lf a (rBy op m ins kids)⟩:=by
 have stop:∀(s:RS) (lf N:Int) (kids:List F),lf <0∨N≤kids.length→awp Tryz.prog GLx (.loop (lG 128 1)) (λe st=>e= .exit 2∧find st.e 4= .ref h.length 0∧find st.e 5= .ref (h.length+1) 0∧st.h=rowsQ h r lw s lf a (rBy op m ins kids))
   ⟨[(0,.ref r 0),(1,.ref lw 0),(4,.ref h.length 0),(5,.ref (h.length+1) 0),(9,.v (.int .i64 N)),(10,.v (.int .i64 kids.length))],rowsQ h r lw s lf a (rBy op m ins kids)⟩:=by
  intro s lf N kids hc;refine awp_loop_end ?_;simp only[Zgl 128 1,awp_seq,awp_reg,awp_block,awp_cond,Zge 128 16];by_cases h1:(kids.length:Int) <N
  ·have h2:¬0≤lf:=by omega
   simp[h1,h2,rowsQ_l hl,awp_exit]
  ·simp[h1,awp_exit]
 intro k;induction k with
 |zero=>
  intro s lf N kids hB hsl h95 hN hn;have:=stop s lf N kids (by by_cases h0:0≤lf;exact .inr (by have:=hN h0;omega);exact .inl (by omega));simpa[dKids]using this
 |succ k ih=>
  intro s lf N kids hB hsl h95 hN hn;by_cases h0:0≤lf
  ·have hN:=hN h0;have hn:=hn h0;have eD:dKids rd (k+1) s lf=((rd s lf).1::(dKids rd k (rd s lf).2.1 (rd s lf).2.2).1,(dKids rd k (rd s lf).2.1 (rd s lf).2.2).2):=by rw[dKids,if_neg (by omega)]
   have hsf:=hs s lf hB;have hdc:=hdec s lf hB;have h2:=ih (rd s lf).2.1 (rd s lf).2.2 N (kids++[(rd s lf).1]) (hB.suf hsf) (Nat.le_trans hsf.length_le hsl) (by omega) (λ_=>by rw[hN];simp;omega) (λ_=>by simp;omega);have hk:=λb hb=>hrd s lf b hB hsl h0 h95 hb;rw[eD];simp only[List.append_assoc,List.singleton_append]at h2;generalize rd s lf=R at*;obtain⟨M,hM⟩:∃M:Nat,N=M:=⟨kids.length+(k+1),hN⟩;subst hM;have hq:=d320qk hl (Q:=λe st=>match e with
    | .normal=>st=⟨[(0,.ref r 0),(1,.ref lw 0),(4,.ref h.length 0),(5,.ref (h.length+1) 0),(9,.v (.int .i64 M)),(10,.v (.int .i64 (kids.length+1)))],rowsQ h r lw R.2.1 R.2.2 a (rBy op m ins (kids++[R.1]))⟩
    |_=>False) s lf h0 R.2.1 R.2.2 R.1 a op m ins kids M (by omega) (by omega) hk rfl
   refine awp_loop_one (s1:=⟨[(0,.ref r 0),(1,.ref lw 0),(4,.ref h.length 0),(5,.ref (h.length+1) 0),(9,.v (.int .i64 M)),(10,.v (.int .i64 (kids++[R.1]).length))],rowsQ h r lw R.2.1 R.2.2 a (rBy op m ins (kids++[R.1]))⟩) (awp_mono _ (λe st hh=>?_) hq) h2;cases e with
   |normal=>rw[hh];simp
   |ret=>exact hh.elim
   |exit i=>exact hh.elim
  ·have eD:dKids rd (k+1) s lf=([],s,lf):=by rw[dKids,if_pos (by omega)]
   have:=stop s lf N kids (.inl (by omega));rw[eD];simpa using this
theorem d320qi (lf:Int) (ca:List D) (hca:ca.length=4) (op m n:Int) (s:RS) (hB:s.B) (hsl:s.1.length≤2^44) (k:Nat) (hk:(if n≤32∧0≤lf then n.toNat else 0)=k):
  awp Tryz.prog GLx (.loop (lG 128 0)) (λe st=>((dIvs k s).2.2=true→e= .exit 0∧find st.e 0= .ref r 0∧find st.e 1= .ref lw 0∧find st.e 4= .ref h.length 0∧find st.e 5= .ref (h.length+1) 0∧find st.e 6= .v (.int .i64 n)∧st.h=rowsQ h r lw (dIvs k s).2.1 lf (.cells ca) (rBy op m (dIvs k s).1 []))∧
    ((dIvs k s).2.2=false→e= .ret∧find st.e 4= .ref h.length 0∧st.h=rowsQ h r lw (dIvs k s).2.1 (-1) (rZ op m (dIvs k s).1 []) (rBy op m (dIvs k s).1 [])))
   ⟨[(0,.ref r 0),(1,.ref lw 0),(4,.ref h.length 0),(5,.ref (h.length+1) 0),(6,.v (.int .i64 n)),(7,.v (.int .i64 0))],rowsQ h r lw s lf (.cells ca) (rBy op m [] [])⟩:=by
 by_cases hc:(n≤32∧0≤lf)∧0 <n
 ·rw[if_pos hc.1]at hk;have h:=d320qs hr hl hne lf hc.1.2 ca hca op m k s [] hB hsl (by simp;omega);have e:((([]:List Ivl).length+k:Nat):Int)=n:=by simp;omega
  rw[e]at h;simpa using h
 ·have k0:k=0:=by
   rw[←hk];split<;>omega
  subst k0;refine awp_loop_end ?_;simp only[Zgl 128 0,awp_seq,awp_reg,awp_block,awp_cond,Zge 128 5];by_cases h1:0 <n
  ·by_cases h2:n≤32
   ·have h3:¬0≤lf:=by omega
    simp[h1,h2,h3,rowsQ_l hl,awp_exit,dIvs]
   ·simp[h1,h2,awp_exit,dIvs]
  ·simp[h1,awp_exit,dIvs]
end
def rowsY (h:List Row) (r lw:Nat) (x:RS) (lf:Int) (a:Row):List Row:=(h.set r x.row).set lw (.cells [.v (.int .i64 lf)])++[a]
theorem rowsY_r {h:List Row} {r lw:Nat} (hr:r <h.length) (hne:r≠lw) (x:RS) (lf:Int) (a:Row):(rowsY h r lw x lf a)[r]?=some x.row:=by
 unfold rowsY;rw[List.getElem?_append_left (by simpa using hr),List.getElem?_set_ne (Ne.symm hne),List.getElem?_set_self (by simpa using hr)]
theorem rowsY_sr {h:List Row} {r lw:Nat} (hr:r <h.length) (hne:r≠lw) (x y:RS) (lf:Int) (a:Row):(rowsY h r lw x lf a).set r y.row=rowsY h r lw y lf a:=by
 unfold rowsY;rw[List.set_append_left _ _ (by simpa using hr),List.set_comm _ _ (Ne.symm hne),List.set_set]
theorem rowsY_len {h:List Row} {r lw:Nat} (x:RS) (lf:Int) (a:Row):(rowsY h r lw x lf a).length=h.length+1:=by simp[rowsY]
theorem rowsY_app {h:List Row} {r lw:Nat} (x:RS) (lf:Int) (a b:Row):rowsY h r lw x lf a++[b]=rowsQ h r lw x lf a b:=by simp[rowsY,rowsQ]
theorem rowsY_mk {h:List Row} {r lw:Nat} (hl:lw <h.length) {x:RS} (hr:h[r]?=some x.row) (lf:Int) (a:Row):(h++[a]).set lw (.cells [.v (.int .i64 lf)])=rowsY h r lw x lf a:=by
 unfold rowsY;rw[List.set_append_left _ _ hl,set_idem hr]
def c320T:AC:= .seq (.seq (.reg (oG 128 15) [0,1,4,5,9,10]) (.block 2 (.loop (lG 128 1)))) (.seq (.reg (oG 128 19) [4]) .ret)
theorem c320_eq:gA 128= .seq (.reg (oG 128 0) [0,1,4]) (.seq (.reg (oG 128 1) [0,1,4]) (.seq (.reg (oG 128 2) [0,1,4,5]) (.seq (.reg (oG 128 3) [0,1,4,5,6]) (.seq (.seq (.reg (oG 128 4) [0,1,4,5,6,7]) (.block 0 (.loop (lG 128 0)))) (.seq (.reg (oG 128 12) [0,1,4,5,6,9]) (.seq (.seq (.reg (oG 128 13) [0,1,4,5,9,99]) (.cond (.t 99 false) (.reg (oG 128 14) [0,1,4,5,9]) .skip)) c320T)))))):=(Zga 128 :)
theorem d320t {h:List Row} {r lw:Nat} (ca:List D) (hca:ca.length=4) (s s':RS) (lf lf' N:Int) (op m:Int) (ins:List Ivl) (kids:List F) {Q:AExit→St→Prop}
  (hK:awp Tryz.prog GLx (.loop (lG 128 1)) (λe st=>e= .exit 2∧find st.e 4= .ref h.length 0∧find st.e 5= .ref (h.length+1) 0∧st.h=rowsQ h r lw s' lf' (.cells ca) (rBy op m ins kids))
   ⟨[(0,.ref r 0),(1,.ref lw 0),(4,.ref h.length 0),(5,.ref (h.length+1) 0),(9,.v (.int .i64 N)),(10,.v (.int .i64 0))],rowsQ h r lw s lf (.cells ca) (rBy op m ins [])⟩)
  (hQ:∀e,find e 4= .ref h.length 0→Q .ret ⟨e,rowsQ h r lw s' lf' (rZ op m ins kids) (rBy op m ins kids)⟩):
  awp Tryz.prog GLx c320T Q
   ⟨[(0,.ref r 0),(1,.ref lw 0),(4,.ref h.length 0),(5,.ref (h.length+1) 0),(9,.v (.int .i64 N))],rowsQ h r lw s lf (.cells ca) (rBy op m ins [])⟩:=by
 have hdr:ca.drop 4=[]:=List.drop_eq_nil_iff.2 (by omega);simp only[c320T,awp_seq,awp_reg,awp_block,Zge 128 15];simp;refine awp_mono _ ?_ hK;rintro e ⟨se,sh⟩ ⟨rfl,f4,f5,hh⟩;simp only at f4 f5 hh;subst hh;have h4:=hQ [(4,.ref h.length 0)] rfl;simp only[rZ,rBy]at h4;simp[Zge 128 19,f4,f5,rowsQ_b,rowsQ_a,rowsQ_sa,rBy,putL,hca,hdr,awp_ret];exact h4
theorem readsE:∀(fu:Nat) (s:RS) (l:Int) (h:List Row) (r lw:Nat),r <h.length→lw <h.length→r≠lw→Low h→s.B→s.1.length≤2^44→0≤l→l≤96→l+1≤fu→h[r]?=some s.row→h[lw]?=some (.cells [.v (.int .i64 l)])→
  FSp Tryz.prog GLx 128 [.ref r 0,.ref lw 0] h [.v (dF fu s l).1.V] ((h.set r (dF fu s l).2.1.row).set lw (.cells [.v (.int .i64 (dF fu s l).2.2)]))
 |0,_,_,_,_,_,_,_,_,_,_,_,h0,_,hf,_,_=>by omega
 |fu+1,s,l,h,r,lw,hr,hl,hne,hlow,hB,hsl,h0,h96,hf,hhr,hhl=>by
  have hA:Row.low 0 (.cells [.v (.int .i64 0),.v (.int .i64 0),.own 190 8 [],.own 70 4 []])=true:=rfl;have g1:=get_old [.cells [.v (.int .i64 0),.v (.int .i64 0),.own 190 8 [],.own 70 4 []]] hhl;have w1:IntKind.i64.wrap (l-1)=l-1:=wrap_i64 (by omega) (by omega);have hm:=rowsY_mk hl hhr (l-1) (.cells [.v (.int .i64 0),.v (.int .i64 0),.own 190 8 [],.own 70 4 []]);have q1:=λ(a:Row) (lf:Int)=>p45e s hB (rowsY h r lw s lf a) r (rowsY_r hr hne _ _ _);have b1:(rInt s).2.B:=hB.suf (rInt_suf s);have l1:=(rInt_suf s).length_le;have q2:=λ(a:Row) (lf:Int)=>p45e (rInt s).2 b1 (rowsY h r lw (rInt s).2 lf a) r (rowsY_r hr hne _ _ _);have b2:(rInt (rInt s).2).2.B:=b1.suf (rInt_suf _);have l2:=(rInt_suf (rInt s).2).length_le;have q3:=λ(a b:Row) (lf:Int)=>p45e (rInt (rInt s).2).2 b2 (rowsQ h r lw (rInt (rInt s).2).2 lf a b) r (rowsQ_r hr hne _ _ _ _);have b3:(rInt (rInt (rInt s).2).2).2.B:=b2.suf (rInt_suf _);have l3:=(rInt_suf (rInt (rInt s).2).2).length_le;simp only[rowsY_sr hr hne,rowsQ_sr hr hne]at q1 q2 q3;rw[dF];simp only;generalize rInt (rInt (rInt s).2).2=n at*;generalize rInt (rInt s).2=nn at*;generalize rInt s=op at*;obtain⟨k,hk⟩:∃k,(if n.1≤32∧0≤l-1 then n.1.toNat else 0)=k:=⟨_,rfl⟩;have hI:=d320qi hr hl hne (l-1) [.v (.int .i64 0),.v (.int .i64 0),.own 190 8 [],.own 70 4 []] rfl op.1 nn.1 n.1 n.2 b3 (by omega) k hk;rw[hk];obtain⟨i1,i2,i3⟩:=dIvs_ok k n.2 b3;generalize dIvs k n.2=iv at*;have b4:=b3.suf i3;have l4:=i3.length_le;have q4:=λ(a b:Row) (lf:Int)=>p45e iv.2.1 b4 (rowsQ h r lw iv.2.1 lf a b) r (rowsQ_r hr hne _ _ _ _);have b5:(rInt iv.2.1).2.B:=b4.suf (rInt_suf _);have l5:=(rInt_suf iv.2.1).length_le;simp only[rowsQ_sr hr hne]at q4;have hK:=λ(a:Row) (ha:Row.low 0 a=true) lf N=>d320qks hl (dF fu) a op.1 nn.1 iv.1 (l-1) (λs l hs=>(dF_ok fu s l hs).2.1)
   (λs l' b hs hsl h0' hl' hb=>by
    have:=readsE fu s l' (rowsQ h r lw s l' a b) r lw (by rw[rowsQ_len];omega) (by rw[rowsQ_len];omega) hne (low_rowsQ hlow ha hb) hs hsl h0' (by omega) (by omega) (rowsQ_r hr hne _ _ _ _) (rowsQ_l hl _ _ _ _);rw[rowsQ_sr hr hne,rowsQ_sl hl]at this;exact this) (λs l hs h0=>by have:=(dF_ok fu s l hs).2.2 h0;omega) (rInt iv.2.1).1.toNat (rInt iv.2.1).2 lf N [] b5 (by omega)
  generalize rInt iv.2.1=k' at*;generalize hAA:Row.cells [.v (.int .i64 0),.v (.int .i64 0),.own 190 8 [],.own 70 4 []]=A at hA g1 hm hI;obtain⟨G,hG⟩:∃G,(if iv.2.2=true then (F.mk op.1 nn.1 iv.1 (dKids (dF fu) k'.1.toNat k'.2 (lf2 n.1 iv.1.length k'.1 (l-1))).1,(dKids (dF fu) k'.1.toNat k'.2 (lf2 n.1 iv.1.length k'.1 (l-1))).2) else (F.mk op.1 nn.1 iv.1 [],iv.2.1,-1))=G:=⟨_,rfl⟩;rw[hG];refine fsp_low (Zkk 128) rfl (by simp) (by
   intro row hrow;simp only[List.length_set];rcases List.mem_or_eq_of_mem_set hrow with hm|rfl
   ·rcases List.mem_or_eq_of_mem_set hm with hm|rfl
    ·exact hlow row hm
    ·rfl
   ·rfl) (by simp[D.lt]) ?_
  simp only[c320_eq,awp_seq,awp_reg,awp_block,awp_cond,Zge 128 0,Zge 128 1,entryD];simp[hAA,g1,w1,putL,hm];simp only[Zge 128 2];simp;refine⟨_,_,(q1 A (l-1)),?_⟩;simp;refine⟨_,_,(q2 A (l-1)),?_⟩;have hBB:Row.cells [.v (.int .i64 op.1),.v (.int .i64 nn.1),.own 190 8 [],.own 70 4 []]=rBy op.1 nn.1 [] []:=rfl;simp[putL,rowsY_len,rowsY_app];simp only[Zge 128 3];simp;refine⟨_,_,(q3 A _ (l-1)),?_⟩;simp only[Zge 128 4];simp;rw[hBB];refine awp_mono _ ?_ hI;rintro e ⟨se,sh⟩ ⟨hT,hF⟩;cases hv:iv.2.2 with
  |false=>
   obtain⟨rfl,f4,hh⟩:=hF hv;simp only at f4 hh;subst hh;rw[hv]at hG;simp at hG;subst hG;simp[f4,rowsQ_a,rZ,Zgr 128,F.V_eq,D.one?,D.vs?,D.v?];exact⟨_,rfl⟩
  |true=>
   obtain⟨rfl,f0,f1,f4,f5,f6,hh⟩:=hT hv;simp only at f0 f1 f4 f5 f6 hh;subst hh;rw[hv]at hG;simp at hG;simp;simp only[Zge 128 12];simp[f0,f1,f4,f5,f6];refine⟨_,_,(q4 A _ (l-1)),?_⟩;simp only[Zge 128 13];obtain⟨lf,hlf⟩:∃lf,lf2 n.1 iv.1.length k'.1 (l-1)=lf:=⟨_,rfl⟩;rw[hlf]at hG;have hK':=hK A hA lf k'.1 (by unfold lf2 at hlf;split at hlf<;>omega) (by
    intro h;unfold lf2 at hlf;split at hlf
    ·omega
    ·simp;omega) (by
    intro h;unfold lf2 at hlf;split at hlf
    ·omega
    ·simp;omega)
   generalize dKids (dF fu) k'.1.toNat k'.2 lf=ks at*;simp at hK';have hBB2:rBy op.1 nn.1 iv.1 []= .cells [.v (.int .i64 op.1),.v (.int .i64 nn.1),.own 190 8 (iv.1.map Ivl.V),.own 70 4 []]:=rfl;have hca:Row.cells [.v (.int .i64 0),.v (.int .i64 0),.own 190 8 [],.own 70 4 []]=A:=hAA;subst hca;have tail:=d320t (Q:=λe s=>(match e with| .exit _=>False|_=>True)∧resDs s (gR 128)=some [.v G.1.V]∧∃J,s.h=(h.set r G.2.1.row).set lw (.cells [.v (.int .i64 G.2.2)])++J) _ rfl k'.2 ks.2.1 lf ks.2.2 k'.1 op.1 nn.1 iv.1 ks.1 hK' (by
    intro e f4;subst hG;refine⟨trivial,?_,?_⟩
    ·simp[f4,rowsQ_a,rZ,Zgr 128,F.V_eq,D.one?,D.vs?,D.v?]
    ·exact⟨_,rfl⟩)
   simp only[hBB2]at tail;by_cases h1:n.1=iv.1.length
   ·by_cases h2:k'.1 <0
    ·have e:lf= -1:=by rw[←hlf];unfold lf2;rw[if_pos (.inr (.inl h2))]
     subst e;simp[rowsQ_b,hBB2,h1,h2];simp only[Zge 128 14];simp[rowsQ_l hl,rowsQ_sl hl,putL];exact tail
    ·by_cases h3:l-1 <k'.1
     ·have e:lf= -1:=by rw[←hlf];unfold lf2;rw[if_pos (.inr (.inr h3))]
      subst e;simp[rowsQ_b,rowsQ_l hl,hBB2,h1,h2,h3];simp only[Zge 128 14];simp[rowsQ_l hl,rowsQ_sl hl,putL];exact tail
     ·have e:lf=l-1:=by rw[←hlf];unfold lf2;rw[if_neg (by omega)]
      subst e;simp[rowsQ_b,rowsQ_l hl,hBB2,h1,h2,h3,awp_skip];exact tail
   ·have e:lf= -1:=by rw[←hlf];unfold lf2;rw[if_pos (.inl h1)]
    subst e;simp[rowsQ_b,hBB2,h1];simp only[Zge 128 14];simp[rowsQ_l hl,rowsQ_sl hl,putL];exact tail
theorem p283g (xs ys:List Int) (hb:xs.length≤2^45):PSp Tryz.prog GLx 89 [nums .u8 xs,nums .u8 ys] [.bool (decide (xs=ys))]:=by
 refine psp_of_awp (Zkk 89) rfl ?_;simp only[Zga 89,awp_seq,awp_reg,awp_block,awp_cond,Zge 89 0,Zge 89 1,entry];by_cases hl:xs.length=ys.length
 ·simp[nums,hl,awp_skip];simp only[Zge 89 3];simp;refine awp_loop_inv xs.length (λk=>⟨[(0,.v (nums .u8 xs)),(1,.v (nums .u8 ys)),(12,.v (.int .i64 xs.length)),(13,.v (.int .i64 k))],[]⟩) (λk=>xs.take k=ys.take k) (by simp[nums,hl]) (by simp) ?_;intro k hk hI;simp only[Zgl 89 0,awp_seq,awp_reg,awp_block,awp_cond,Zge 89 4];simp[nums];by_cases h1:k <xs.length
  ·have hx:xs[k]?=some xs[k]:=List.getElem?_eq_getElem h1;have hy:ys[k]?=some (ys[k]'(by omega)):=List.getElem?_eq_getElem (by omega);have hw:IntKind.i64.wrap ((k:Int)+1)=k+1:=wrap_i64 (by omega) (by omega);have e1:xs.take (k+1)=xs.take k++[xs[k]]:=by rw[List.take_add_one,hx];rfl
   have e2:ys.take (k+1)=ys.take k++[ys[k]'(by omega)]:=by rw[List.take_add_one,hy];rfl
   rw[if_pos (by omega),awp_skip];simp only[Zge 89 5];simp only[awp_regD,Zge 89 6];by_cases he:xs[k]=ys[k]'(by omega)
   ·simp[hx,hy,he,awp_skip];simp only[Zge 89 8];simp[hw,h1];rw[e1,e2,hI,he]
   ·simp[hx,hy,he];simp only[Zge 89 7];simp[awp_ret,Zgr 89];intro h;exact he (by simp[h])
  ·have:k=xs.length:=by omega
   subst this;rw[if_neg (by omega),awp_exit];have hI2:xs=ys:=by
    rw[List.take_length,hl,List.take_length]at hI;exact hI
   simp[awp_ret,Zge 89 9,Zgr 89,hI2]
 ·have hne:xs≠ys:=λh=>hl (by rw[h]);have hl':¬((xs.length:Int)=ys.length):=by omega
  simp[nums,hl'];simp only[Zge 89 2];simp[awp_ret,Zgr 89,hne]
abbrev lo (f k:Nat) {x:(Nat→Int)→(Nat→Int)→List GI} (_h:(λI J=>genFO PG GLx hints f I J k)=x:=by conv=>lhs;reduce):List GI:=x (λn=> @OfNat.ofNat Int n _) (λn=> -@OfNat.ofNat Int n _)
theorem EnvD.pushW {ns cs:List (Option Nat)} {bn:List Nat} {vs bv:Nat→D} {d:Nat→Bool} {e:Env} (hE:EnvD ns cs bn vs bv d e) (hok:okN ns bn=true) (i k j m:Nat) {v w:D} (hi:ns[i]?=some (some k)) (hv:vs i=v) (hj:cs[j]?=some (some i)) (hm:ns[j]?=some (some m)):
  EnvD ns cs bn vs bv (did d i) ((k,v)::(m,w)::e):=by
 refine hE.step hok i (λk' hk'=>?_) (λk' hk' hc=>?_)
 ·rw[hi]at hk';simp only[Option.some.injEq]at hk';subst hk';show (if k=k then v else _)=vs i;rw[if_pos rfl,hv]
 ·show (if k=k' then v else if m=k' then w else find e k')=find e k';rw[if_neg (λh=>hk' (by rw[hi,h])),if_neg (λh=>hc j hj (by rw[hm,h]))]
def t113a:AT:=match ll 11 0 with| .seq _ (.seq _ (.seq (.block _ (.regA _ _ _ t)) _))=>t|_=> .done
def cl113a:List (List Nat):=match ll 11 0 with| .seq _ (.seq _ (.seq (.block _ (.regA _ _ c _)) _))=>c|_=>[]
theorem c113l0_eq:(lG 11 0)= .seq (.reg (oG 11 9) [1,2,4,5,6,33,34,35]) (.seq (.cond (.t 35 false) .skip (.exit 0)) (.seq (.block 1 (.regA (oG 11 10) [1,2,4,5,6,33,34] cl113a t113a)) (.reg (oG 11 11) [1,2,4,5,6,33,34]))):=(Zgl 11 0 :)
def c113r10:List GI:=lo 11 10
theorem e113r10:oG 11 10=c113r10:=(Zge 11 10 :)
theorem t113a_chk:t113a.chk c113r10 cl113a (List.range 16)=true:=by kernel_rfl
def ns113a:List (Option Nat):=[some 36,some 37,some 38,some 39,some 40,some 41,some 42,some 43,some 44,some 45,some 46,some 47,some 48,some 49,some 50,none]
def cs113a:List (Option Nat):=[none,some 13,none,none,none,none,none,none,none,none,none,none,none,some 15,none,none]
def bn113a:List Nat:=[1,2,4,5,6,33,34]
theorem ok113a:okN ns113a bn113a=true:=by kernel_rfl
def vs113a (x:Dat) (ds:List V) (j:Nat):D:=
 match j with
 |0|14=> .ref 4 4
 |1=> .own 80 4 ds
 |2|4|7|9=> .ref 2 0
 |3=> .v (.int .i64 x.cl)
 |5=> .v (.int .i64 x.ix)
 |6=> .agg [.v (.int .i64 x.cl),.v (.int .i64 x.ix)]
 |8=> .v (.int .i64 x.day)
 |10=> .v (.int .i64 x.file)
 |11=> .agg [.v (.int .i64 x.cl),.v (.int .i64 x.ix),.v (.int .i64 x.day),.v (.int .i64 x.file)]
 |12=> .own 80 4 [x.V]
 |13=> .own 80 4 (ds++[x.V])
 |_=> .any
def cnt113a (d:Nat→Bool):Nat:=if d 10 then 4 else if d 8 then 3 else if d 5 then 2 else if d 3 then 1 else 0
def cell113a (x:Dat) (ds:List V) (d:Nat→Bool):D:=if d 15 then .own 80 4 (ds++[x.V]) else if d 1 then .v (.list ds) else .own 80 4 ds
def bv113 (n k:Int) (j:Nat):D:=
 match j with
 |1=> .ref 0 0
 |2=> .ref 1 0
 |4=> .ref 3 0
 |5=> .func 42 [.ref 3 0,.ref 0 0]
 |6=> .ref 4 0
 |33=> .v (.int .i64 n)
 |34=> .v (.int .i64 k)
 |_=> .any
def t113b:AT:=match ll 11 1 with| .seq _ (.seq _ (.seq (.block _ (.regA _ _ _ t)) _))=>t|_=> .done
def cl113b:List (List Nat):=match ll 11 1 with| .seq _ (.seq _ (.seq (.block _ (.regA _ _ c _)) _))=>c|_=>[]
theorem c113l1_eq:(lG 11 1)= .seq (.reg (oG 11 14) [1,2,4,5,6,56,57,58]) (.seq (.cond (.t 58 false) .skip (.exit 2)) (.seq (.block 3 (.regA (oG 11 15) [1,2,4,5,6,56,57] cl113b t113b)) (.reg (oG 11 16) [1,2,4,5,6,56,57]))):=(Zgl 11 1 :)
def c113r15:List GI:=lo 11 15
theorem e113r15:oG 11 15=c113r15:=(Zge 11 15 :)
theorem t113b_chk:t113b.chk c113r15 cl113b (List.range 14)=true:=by kernel_rfl
def ns113b:List (Option Nat):=[some 59,some 60,some 61,some 62,some 63,some 64,some 65,some 66,some 67,some 68,some 69,some 70,some 71,none]
def cs113b:List (Option Nat):=[none,some 11,none,none,none,none,none,none,none,none,none,some 13,none,none]
def bn113b:List Nat:=[1,2,4,5,6,56,57]
theorem ok113b:okN ns113b bn113b=true:=by kernel_rfl
def vs113b (x:Own) (ds:List V) (j:Nat):D:=
 match j with
 |0=> .ref 4 6
 |1=> .own 82 3 ds
 |2=> .ref 2 0
 |3=> .v (.int .i64 x.party)
 |4=> .ref 2 0
 |5=> .v (.int .i64 x.num)
 |6=> .ref 2 0
 |7=> .v (.int .i64 x.den)
 |8=> .agg [.v (.int .i64 x.num),.v (.int .i64 x.den)]
 |9=> .agg [.v (.int .i64 x.party),.v (.int .i64 x.num),.v (.int .i64 x.den)]
 |10=> .own 82 3 [x.V]
 |11=> .own 82 3 (ds++[x.V])
 |12=> .ref 4 6
 |_=> .any
def cnt113b (d:Nat→Bool):Nat:=if d 7 then 3 else (if d 5 then 2 else (if d 3 then 1 else (0)))
def cell113b (x:Own) (ds:List V) (d:Nat→Bool):D:=if d 13 then .own 82 3 (ds++[x.V]) else if d 1 then .v (.list ds) else .own 82 3 ds
def bv113b (n k:Int) (j:Nat):D:=
 match j with
 |1=> .ref 0 0
 |2=> .ref 1 0
 |4=> .ref 3 0
 |5=> .func 42 [.ref 3 0,.ref 0 0]
 |6=> .ref 4 0
 |56=> .v (.int .i64 n)
 |57=> .v (.int .i64 k)
 |_=> .any
def t113c:AT:=match ll 11 2 with| .seq _ (.seq _ (.seq (.block _ (.regA _ _ _ t)) _))=>t|_=> .done
def cl113c:List (List Nat):=match ll 11 2 with| .seq _ (.seq _ (.seq (.block _ (.regA _ _ c _)) _))=>c|_=>[]
theorem c113l2_eq:(lG 11 2)= .seq (.reg (oG 11 18) [1,2,4,6,74,75,76]) (.seq (.cond (.t 76 false) .skip (.exit 4)) (.seq (.block 5 (.regA (oG 11 19) [1,2,4,6,74,75] cl113c t113c)) (.reg (oG 11 20) [1,2,4,6,74,75]))):=(Zgl 11 2 :)
def c113r19:List GI:=lo 11 19
theorem e113r19:oG 11 19=c113r19:=(Zge 11 19 :)
theorem t113c_chk:t113c.chk c113r19 cl113c (List.range 15)=true:=by kernel_rfl
def ns113c:List (Option Nat):=[some 77,some 78,some 79,some 80,some 81,some 82,some 83,some 84,some 85,some 86,some 87,some 88,some 89,some 90,none]
def cs113c:List (Option Nat):=[none,some 12,none,none,none,none,none,none,none,none,none,none,some 14,none,none]
def bn113c:List Nat:=[1,2,4,6,74,75]
theorem ok113c:okN ns113c bn113c=true:=by kernel_rfl
def vs113c (x:Lic) (ds:List V) (j:Nat):D:=
 match j with
 |0=> .ref 4 7
 |1=> .own 83 4 ds
 |2=> .ref 2 0
 |3=> .v (.int .i64 x.fr)
 |4=> .ref 2 0
 |5=> .v (.int .i64 x.to)
 |6=> .ref 2 0
 |7=> .v (.int .i64 x.fst)
 |8=> .ref 2 0
 |9=> .v (.int .i64 x.lst)
 |10=> .agg [.v (.int .i64 x.fr),.v (.int .i64 x.to),.v (.int .i64 x.fst),.v (.int .i64 x.lst)]
 |11=> .own 83 4 [x.V]
 |12=> .own 83 4 (ds++[x.V])
 |13=> .ref 4 7
 |_=> .any
def cnt113c (d:Nat→Bool):Nat:=if d 9 then 4 else (if d 7 then 3 else (if d 5 then 2 else (if d 3 then 1 else (0))))
def cell113c (x:Lic) (ds:List V) (d:Nat→Bool):D:=if d 14 then .own 83 4 (ds++[x.V]) else if d 1 then .v (.list ds) else .own 83 4 ds
def bv113c (n k:Int) (j:Nat):D:=
 match j with
 |1=> .ref 0 0
 |2=> .ref 1 0
 |4=> .ref 3 0
 |6=> .ref 4 0
 |74=> .v (.int .i64 n)
 |75=> .v (.int .i64 k)
 |_=> .any
end Go.Va
