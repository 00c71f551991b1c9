/- Laws that ExtractAnswers leans on, part 23. No condition of its own. -/
import Derived.Test.YtopldfpkgbkomaaGreatDoorL16
import Derived.Test.YtopldfpkgbkomaaGreatDoorL20
import Derived.Test.YtopldfpkgbkomaaGreatDoorL21
import Derived.Test.YtopldfpkgbkomaaGreatDoorL22
set_option linter.all false
set_option maxRecDepth 100000
set_option maxHeartbeats 4000000
noncomputable section
namespace Go.Va
open Go.Proofs
section
variable {K:St→Prop} {n:Nat} {s:St}
section
variable {P:Program} {GL:Aa}
theorem UC {is:List GI} {Aq:List (List Nat)} (I:List Nat→St→Prop)
  (hstep:∀rem i s,rem.Nodup→(∀j∈rem,j <n)→i∈rem→(∀j∈(Aq[i]?).getD [],j∉rem)→(∀j <n,j∉rem→i∉(Aq[j]?).getD [])→I rem s→D5 P GL (is.getD i default) (λs1=>I (rem.erase i) s1) s)
  (hfin:∀s,I [] s→K s):∀(k:Nat) (rem:List Nat) (s:St),rem.length=k→rem.Nodup→(∀j∈rem,j <n)→Vy Aq n rem→I rem s→MB P GL is Aq K k rem s:=by
 intro k;induction k with
 |zero=>
  intro rem s hk _ _ _ hi;have:rem=[]:=pK hk;subst this;exact hfin s hi
 |succ k ih=>
  intro rem s hk hnd hlt hd hi i him hdep;refine Js (λs1 h1=>ih (rem.erase i) s1 ?_ (hnd.erase i) (λj hj=>hlt j (qq hj)) ?_ h1) (hstep rem i s hnd hlt him hdep (λj hj hjr hij=>hd j hj hjr i hij him) hi)
  ·rw[sF him];omega
  ·intro j hj hjr k2 hk2 hkr;have hk3:k2∈rem:=qq hkr;by_cases hji:j=i
   ·subst hji;exact hdep k2 hk2 hk3
   ·exact hd j hj (λhm=>hjr ((sE hji).2 hm)) k2 hk2 hk3
theorem UD {is:List GI} {Aq:List (List Nat)} (I:(Nat→Bool)→St→Prop)
  (hstep:∀d i s,i <n→d i=false→(∀j∈(Aq[i]?).getD [],d j=true)→(∀j <n,i∈(Aq[j]?).getD []→d j=false)→I d s→D5 P GL (is.getD i default) (λs1=>I (Cc d i) s1) s)
  (hfin:∀d s,(∀j <n,d j=true)→I d s→K s) (h0:I (λj=>decide (n≤j)) s):MB P GL is Aq K n (List.range n) s:=by
 refine UC (Aq:=Aq) (n:=n) (λrem s=>I (λj=>decide (j∉rem)) s) ?_ ?_ n (List.range n) s (by simp) sG (λj hj=>oy.1 hj) ?_ ?_
 ·intro rem i s hnd hlt hi hdep hup hI;have e:(λj=>decide (j∉rem.erase i))=Cc (λj=>decide (j∉rem)) i:=by
   funext j
   simp only[Cc,hnd.mem_erase_iff];by_cases h1:j=i<;>simp[h1]
  rw[e];exact hstep (λj=>decide (j∉rem)) i s (hlt i hi) (by simpa using hi) (λj hj=>by simpa using hdep j hj) (λj hj hij=>by
   have:j∈rem:=Classical.byContradiction λh=>hup j hj h hij;simpa using this) hI
 ·intro s hI;exact hfin _ s (λj _=>by simp) hI
 ·intro j hj hjr i hi;exact absurd (oy.2 hj) hjr
 ·have e:(λj=>decide (j∉List.range n))=λj=>decide (n≤j):=by
   funext j;simp
  rw[e];exact h0
end
def C8 (pre:List V) (g:V) (b:Nat) (d:Nat→Bool):D:=
 if d 7 then (if d 6 then .own 84 4 (pre++[g]) else .pend b 84 4 pre) else if d 0 then .v (.list pre) else .own 84 4 pre
structure I64 (H:List Row) (r6 r8:Nat) (pre:List V) (op n:Int) (ins kids:V) (d:Nat→Bool) (s:St):Prop where
 ex:∃b,s.h=H.set r6 (.cells [C8 pre (.agg [.int .i64 op,.int .i64 n,ins,kids]) b d])∧(d 4=true→d 7=false→AG s.e 26=if d 6 then .own 84 4 (pre++[.agg [.int .i64 op,.int .i64 n,ins,kids]]) else .pend b 84 4 pre)∧
  (d 7=true→d 6=false→AG s.e 26= .pptr b 0 pre.length)∧(d 5=true→AG s.e 27= .pptr b 4 pre.length)
 e6:AG s.e 6= .ref r6 0
 e8:AG s.e 8= .ref r8 0
 e23:d 1=true→AG s.e 23= .agg [.v (.int .i64 op),.v (.int .i64 n),.v ins,.v kids]
 e22:d 0=true→d 4=false→AG s.e 22= .own 84 4 pre
 e24:d 2=true→AG s.e 24= .v (.int .i64 pre.length)
 e25:d 3=true→AG s.e 25= .own 84 4 [.agg [.int .i64 0,.int .i64 0,.list [],.list []]]
theorem mY (H:List Row) (r6 r8:Nat) (hne:r6≠r8) (hl:r6 <H.length) (pre:List V) (hpre:pre.length≤2^20) (op n:Int) (ins kids:V)
  (h6:H[r6]?=some (.cells [.own 84 4 pre])) (h8:H[r8]?=some (.cells [.v (.int .i64 op),.v (.int .i64 n),.v ins,.v kids])) (K:St→Prop)
  (hK:∀e,K ⟨e,H.set r6 (.cells [.own 84 4 (pre++[.agg [.int .i64 op,.int .i64 n,ins,kids]])])⟩) (e:CB) (f6:AG e 6= .ref r6 0) (f8:AG e 8= .ref r8 0):
  MB Tryz.prog Ah FY [[],[],[0],[],[0,1,2,3],[0,1,2,3,4],[0,1,2,3,4,5],[0,1,2,3,4]] K 8 (List.range 8) ⟨e,H⟩:=by
 have hroom:AU (pre.length+1) 64=true:=by simp[AU];omega
 refine UD (I64 H r6 r8 pre op n ins kids) ?_ ?_ ?_
 ·rintro d i ⟨se,sh⟩ hi hdi hdep hup ⟨⟨b,hh,Ry,e26',e27⟩,e6,e8,e23,e22,e24,e25⟩;simp only at hh Ry e26' e27 e6 e8 e23 e22 e24 e25;subst hh;have hg8:∀X,(H.set r6 X)[r8]?=some (.cells [.v (.int .i64 op),.v (.int .i64 n),.v ins,.v kids]):=λX=>by rw[ot hne];exact h8
  have hg6:∀X,(H.set r6 X)[r6]?=some X:=λX=>pF hl;have hcases:i=0∨i=1∨i=2∨i=3∨i=4∨i=5∨i=6∨i=7:=by omega
  rcases hcases with rfl|rfl|rfl|rfl|rfl|rfl|rfl|rfl
  ·have d4:=hup 4 (by decide) (by simp);have d7:=hup 7 (by decide) (by simp);have d5:=hup 5 (by decide) (by simp);simp[D5,FY,e6,hg6,C8,hdi,d7];refine⟨⟨b,?_,?_,?_,?_⟩,?_,?_,?_,?_,?_,?_⟩<;>simp_all [Cc,C8]
  ·simp[D5,FY,e8,hg8];refine⟨⟨b,?_,?_,?_,?_⟩,?_,?_,?_,?_,?_,?_⟩<;>simp_all [Cc,C8]
  ·have d0:=hdep 0 (by simp);have d4:=hup 4 (by decide) (by simp);have h22:=e22 d0 d4;simp[D5,FY,h22];refine⟨⟨b,?_,?_,?_,?_⟩,?_,?_,?_,?_,?_,?_⟩<;>simp_all [Cc,C8]
  ·have d4:=hup 4 (by decide) (by simp);simp[D5,FY];refine⟨⟨b,?_,?_,?_,?_⟩,?_,?_,?_,?_,?_,?_⟩<;>simp_all [Cc,C8]
  ·have d0:=hdep 0 (by simp);have d3:=hdep 3 (by simp);have d5:=hup 5 (by decide) (by simp);have d6:=hup 6 (by decide) (by simp);have d7:=hup 7 (by decide) (by simp);have h22:=e22 d0 hdi;have h25:=e25 d3;simp[D5,FY,h22,h25,Dr,hroom];intro b';refine⟨⟨b',?_,?_,?_,?_⟩,?_,?_,?_,?_,?_,?_⟩<;>simp_all [Cc,C8]
  ·have d4:=hdep 4 (by simp);have d2:=hdep 2 (by simp);have d6:=hup 6 (by decide) (by simp);have h24:=e24 d2;cases d7:d 7 with
   |true=>
    have h26:=e26' d7 d6;simp[D5,FY,h24,h26];refine⟨⟨b,?_,?_,?_,?_⟩,?_,?_,?_,?_,?_,?_⟩<;>simp_all [Cc,C8]
   |false=>
    have h26:=Ry d4 d7;rw[d6]at h26;simp at h26;simp[D5,FY,h24,h26];refine⟨⟨b,?_,?_,?_,?_⟩,?_,?_,?_,?_,?_,?_⟩<;>simp_all [Cc,C8]
  ·have d4:=hdep 4 (by simp);have d1:=hdep 1 (by simp);have d5:=hdep 5 (by simp);have h23:=e23 d1;have h27:=e27 d5;cases d7:d 7 with
   |true=>
    have h26:=e26' d7 hdi;simp[D5,FY,h23,h26,h27,e6,hg6,C8,d7,hdi,D.vs?,D.v?,V.cells];refine⟨⟨b,?_,?_,?_,?_⟩,?_,?_,?_,?_,?_,?_⟩<;>simp_all [Cc,C8]
   |false=>
    have h26:=Ry d4 d7;rw[hdi]at h26;simp at h26;simp[D5,FY,h23,h26,h27,D.vs?,D.v?,V.cells];refine⟨⟨b,?_,?_,?_,?_⟩,?_,?_,?_,?_,?_,?_⟩<;>simp_all [Cc,C8]
  ·have d4:=hdep 4 (by simp);have h26:=Ry d4 hdi;cases d6:d 6 with
   |true=>
    rw[d6]at h26;simp at h26;simp[D5,FY,h26,e6,hg6,C8,hdi];refine⟨⟨b,?_,?_,?_,?_⟩,?_,?_,?_,?_,?_,?_⟩<;>simp_all [Cc,C8]
   |false=>
    rw[d6]at h26;simp at h26;simp[D5,FY,h26,e6,hg6,C8,hdi];refine⟨⟨b,?_,?_,?_,?_⟩,?_,?_,?_,?_,?_,?_⟩<;>simp_all [Cc,C8]
 ·rintro d ⟨se,sh⟩ hd ⟨⟨b,hh,_⟩,_⟩;simp only at hh;subst hh;have h7:=hd 7 (by decide);have h6':=hd 6 (by decide);simp only[C8,h7,h6',if_true];exact hK se
 ·refine⟨⟨0,?_,?_,?_,?_⟩,f6,f8,?_,?_,?_,?_⟩<;>simp[C8]
  obtain⟨hl2,hg⟩:=oM.1 h6;rw[←hg];exact(sU hl2).symm
section
variable (h:List Row) (C B:Row) (e0:CB)
def Rz (h:List Row) (C B:Row) (e0:CB) (own:List V) (t:Tag):List Row:=h++[C,.cells [.own 84 4 own],B,Au Tryz.prog Ah t e0 [21] (lG 64 0) (lG 64 1000)]
theorem mN (h6:AG e0 6= .ref (h.length+1) 0) (pre:List F) (hpre:pre.length≤2^20) (g:F) (J:List Row):
  Nk Tryz.prog Ah (h.length+3) [.v g.V] (Rz h C B e0 (pre.map F.V) .ready++J) true (Rz h C B e0 ((pre++[g]).map F.V) .ready++(J++[.cells g.cells])):=by
 refine Cm (e0:=e0) (ps:=[21]) (asg:=(lG 64 0)) (body:=(lG 64 1000)) (by simp[Rz]) rfl ?_;obtain⟨op,n,ins,kids⟩:=g;have hr:=λ(H:List Row) (r8:Nat) (hne:h.length+1≠r8) (hl:h.length+1 <H.length) (hx:H[h.length+1]?=some (.cells [.own 84 4 (pre.map F.V)])) (h8:H[r8]?=some (.cells [.v (.int .i64 op),.v (.int .i64 n),.v (.list (ins.map Ivl.V)),.v (.list (kids.map F.V))])) K hK e f6 f8=>
  mY H (h.length+1) r8 hne hl (pre.map F.V) (by simpa using hpre) op n (.list (ins.map Ivl.V)) (.list (kids.map F.V)) hx h8 K hK e f6 f8
 simp only[F.cells,F.op,F.n,F.ins,F.kids,F.V_eq,Rz,Fh,A8 64 0,A8 64 1000,AF,AM,AA 64 3];simp[h6,AO];rw[T9,jj];refine hr _ (h.length+(J.length+4)) (by omega) (by simp) (by simp) (by simp) _ ?_ _ rfl rfl;intro e;simp[CJ,F.V_eq]
end
end
theorem jw (H:List Row) (a:F) (a14:Nat) (h14:H[a14]?=some (.cells a.cells)) (bl res:List F) (hb:∀b∈bl,(mkA a b).ok∧BR (mkA a b)=0) (hlen:res.length+bl.length≤64) (d1 d6 d37 d38 d39 d62 d63 d64:D) (J:List Row) (Q:AExit→St→Prop)
  (hQ:∀J' e,AG e 1=d1→AG e 6=d6→AG e 7= .own 84 4 ((res++bl.map (mkA a)).map F.V)→AG e 37=d37→AG e 38=d38→AG e 39=d39→AG e 62=d62→AG e 63=d63→AG e 64=d64→Q (.exit 6) ⟨e,H++J'⟩):
  awp Tryz.prog Ah (.loop (lG 64 3)) Q ⟨[(1,d1),(6,d6),(7,.own 84 4 (res.map F.V)),(14,.ref a14 0),(37,d37),(38,d38),(39,d39),(62,d62),(63,d63),(64,d64),(68,.v (.list (bl.map F.V))),(69,.v (.int .i64 bl.length)),(70,.v (.int .i64 (0:Nat)))],H++J⟩:=by
 refine AY bl.length (λk s=>∃J',s=⟨[(1,d1),(6,d6),(7,.own 84 4 ((res++(bl.take k).map (mkA a)).map F.V)),(14,.ref a14 0),(37,d37),(38,d38),(39,d39),(62,d62),(63,d63),(64,d64),(68,.v (.list (bl.map F.V))),(69,.v (.int .i64 bl.length)),(70,.v (.int .i64 k))],H++J'⟩) ⟨J,by simp⟩ ?_;rintro k s hk ⟨J',rfl⟩;have h14':=λZ=>AV Z h14;simp only[Zw,A8 64 3,AA 64 17];by_cases hkl:k <bl.length
 ·obtain⟨b,hbk⟩:∃b,bl[k]?=some b:=⟨_,oI hkl⟩;obtain⟨hmok,hmz⟩:=hb b (oK hbk);have w1:=Bb k;have htk:bl.take (k+1)=bl.take k++[b]:=by rw[oW,hbk];rfl
  have q1:=aE a;have q2:=aE b;have q3:=jX [BG a,BG b] (by simp) (by
   have hsz:(mkA a b).size≤1000:=by
    unfold BR at hmz;split at hmz
    ·cases hmz
    ·omega
   unfold mkA at hsz;rw[F.size_eq]at hsz;have:=F.kids_len (BG a++BG b);simp at this ⊢;simp at hsz;omega)
  have q4:=(ZW (mkA a b) hmok).fsp;rw[hmz]at q4;rw[htk];have hrl:((bl.take k).map (mkA a)).length≤k:=by rw[oi,ol];omega
  rw[oh (f:=mkA a)];generalize (bl.take k).map (mkA a)=R at*;have hroom:AU (res.length+R.length+1) 64=true:=by simp[AU];omega
  simp only[mkA]at q4;simp only[oV,pf,mkA];have hfl:[BG a,BG b].flatten=BG a++BG b:=by simp
  rw[hfl]at q3;generalize BG a=pa at*;generalize BG b=pb at*;obtain⟨ao,an,ai,ak⟩:=a;obtain⟨bo,bn,bi,bk⟩:=b;simp only[F.V_eq,F.cells,F.op,F.n,F.ins,F.kids]at*;simp at q3 q4 h14';simp;rw[if_pos (by omega),AD];simp only[AA 64 18];simp[hbk,F.V_eq,AO];simp only[AS,AA 64 19];simp[h14'];refine⟨_,_,⟨rfl,rfl⟩,_,q1,?_⟩;simp;refine⟨_,_,⟨rfl,rfl⟩,_,q2,?_⟩;simp;refine⟨_,_,⟨rfl,rfl⟩,_,q3,?_⟩;simp[AO];simp only[AA 64 20];simp;refine⟨_,_,q4 _,?_⟩;simp[AD,AA 64 22,hroom,AA 64 23,w1,hkl]
 ·have hk2:k=bl.length:=by omega
  subst hk2;simp;rw[AJ];refine hQ _ _ ?_ ?_ ?_ ?_ ?_ ?_ ?_ ?_ ?_<;>simp
theorem jx (H:List Row) (r6:Nat) (al bl res:List F) (h6:H[r6]?=some (.cells [.own 84 4 (bl.map F.V)])) (hb:∀a∈al,∀b∈bl,(mkA a b).ok∧BR (mkA a b)=0) (hlen:res.length+al.length*bl.length≤64) (haln:al.length≤2^20) (d1 d37 d38 d39:D) (J:List Row) (Q:AExit→St→Prop)
  (hQ:∀J' e,AG e 1=d1→AG e 6= .ref r6 0→AG e 7= .own 84 4 ((res++al.flatMap λa=>bl.map (mkA a)).map F.V)→AG e 37=d37→AG e 38=d38→AG e 39=d39→Q (.exit 4) ⟨e,H++J'⟩):
  awp Tryz.prog Ah (.loop (lG 64 2)) Q ⟨[(1,d1),(6,.ref r6 0),(7,.own 84 4 (res.map F.V)),(37,d37),(38,d38),(39,d39),(62,.v (.list (al.map F.V))),(63,.v (.int .i64 al.length)),(64,.v (.int .i64 (0:Nat)))],H++J⟩:=by
 obtain⟨U,hU⟩:∃U:Nat→List F,∀k,U k=res++(al.take k).flatMap λa=>bl.map (mkA a):=⟨_,λ_=>rfl⟩;have hU0:U 0=res:=by rw[hU];simp
 have hUn:U al.length=res++al.flatMap λa=>bl.map (mkA a):=by rw[hU,od]
 have hUs:∀k a,al[k]?=some a→U (k+1)=U k++bl.map (mkA a):=by
  intro k a h;rw[hU,hU,oW,h];simp
 have hUl:∀k,k≤al.length→(U k).length=res.length+k*bl.length:=by
  intro k hk;have:∀l:List F,(l.flatMap λa=>bl.map (mkA a)).length=l.length*bl.length:=by
   intro l;induction l with
   |nil=>simp
   |cons x l ih=>rw[oZ,oL,ih,oi,oj,qK];omega
  rw[hU,oL,this,ol,qH hk]
 rw[←hUn]at hQ;refine AY al.length (λk s=>∃J',s.h=H++J'∧AG s.e 1=d1∧AG s.e 6= .ref r6 0∧AG s.e 7= .own 84 4 ((U k).map F.V)∧AG s.e 37=d37∧AG s.e 38=d38∧AG s.e 39=d39∧AG s.e 62= .v (.list (al.map F.V))∧AG s.e 63= .v (.int .i64 al.length)∧AG s.e 64= .v (.int .i64 k)) ⟨J,rfl,rfl,rfl,by simp[hU0],rfl,rfl,rfl,rfl,rfl,rfl⟩ ?_;rintro k ⟨se,sh⟩ hk ⟨J',rfl,f1,f6,f7,f37,f38,f39,f62,f63,f64⟩;simp only at f1 f6 f7 f37 f38 f39 f62 f63 f64;have h6':=λZ=>AV Z h6;simp only[Zw,A8 64 2,AA 64 14];simp[f1,f6,f7,f37,f38,f39,f62,f63,f64];by_cases hkl:k <al.length
 ·obtain⟨a,hak⟩:∃a,al[k]?=some a:=⟨_,oI hkl⟩;have w1:=Bb k;have hrl:=hUl k (by omega);have hm:(k+1)*bl.length≤al.length*bl.length:=qV _ hkl;rw[qK]at hm;have hc:=λH2 a14 h14 d6 d62 d63 d64 J Q=>jw H2 a a14 h14 bl (U k) (hb a (oK hak)) (by rw[hrl];omega) d1 d6 d37 d38 d39 d62 d63 d64 J Q;rw[hUs k a hak];generalize U k=R at*;have hc2:=hc (H++J'++[.cells a.cells]) (H.length+J'.length) (by
   simp) (.ref r6 0) (.v (.list (al.map F.V))) (.v (.int .i64 al.length)) (.v (.int .i64 k)) []
  obtain⟨ao,an,ai,ak⟩:=a;simp only[F.cells,F.op,F.n,F.ins,F.kids]at*;rw[if_pos (by omega),AD];simp only[AA 64 15];simp[hak,F.V_eq,AO];simp only[AA 64 16];simp[h6'];simp at hc2;refine hc2 _ ?_;intro J2 e g1 g6 g7 g37 g38 g39 g62 g63 g64;simp[AA 64 24,g1,g6,g7,g37,g38,g39,g62,g63,g64,w1,hkl]
 ·have hk2:k=al.length:=by omega
  subst hk2;rw[if_neg (by omega),AJ];refine hQ _ _ ?_ ?_ ?_ ?_ ?_ ?_<;>simp
theorem WJ (h:List Row) (C B:Row) (e0:CB) (h6:AG e0 6= .ref (h.length+1) 0):∀(l pre:List F),pre.length+l.length≤2^20→
  RunY Tryz.prog Ah (h.length+3) (l.map F.V) (Rz h C B e0 (pre.map F.V) .ready) true (Rz h C B e0 ((pre++l).map F.V) .ready)
 |[],pre,_=>⟨rfl,by rw[pz]⟩
 |g::l,pre,hn=>by
  have hn':pre.length+(l.length+1)≤2^20:=hn;refine⟨true,Rz h C B e0 ((pre++[g]).map F.V) .ready,by simp[Rz],λJ=>⟨[.cells g.cells],mN h C B e0 h6 pre (by omega) g J⟩,?_⟩;have:=WJ h C B e0 h6 l (pre++[g]) (by rw[oL];simp;omega);rw[oR]at this;exact this
theorem dH (k:Nat) (acc:List (List F)):Cv false [0] (.int .i64 k) (EJ 0 (acc.map λl=>V.list (l.map F.V)))=some (if k <acc.length then some k else none):=by
 rw[IH false];simp
theorem jy (H:List Row) (r6 mx:Nat) (acc:List (List F)) (hmx:H[mx]?=some (EW (acc.map λl=>V.list (l.map F.V)))) (refs:List Int) (hrefs:∀r∈refs,0≤r∧r <acc.length) (hrn:refs.length≤8) (bl:List F) (h6:H[r6]?=some (.cells [.own 84 4 (bl.map F.V)]))
  (hb:∀r∈refs,∀a∈(acc[r.toNat]?).getD [],∀b∈bl,(mkA a b).ok∧BR (mkA a b)=0) (U:Nat→List F) (hU:∀k,U k=(refs.take k).flatMap λr=>((acc[r.toNat]?).getD []).flatMap λa=>bl.map (mkA a)) (hlen:∀k,k≤refs.length→(U k).length≤64)
  (haln:∀r∈refs,((acc[r.toNat]?).getD []).length≤64) (hbl:bl.length≤64) (J:List Row) (Q:AExit→St→Prop)
  (hQ:∀J' e,AG e 7= .own 84 4 ((U refs.length).map F.V)→Q (.exit 2) ⟨e,H++J'⟩):
  awp Tryz.prog Ah (.loop (lG 64 1)) Q ⟨[(1,.mref mx),(6,.ref r6 0),(7,.own 84 4 []),(37,.v (AH .i64 refs)),(38,.v (.int .i64 refs.length)),(39,.v (.int .i64 (0:Nat)))],H++J⟩:=by
 have hU0:U 0=[]:=by rw[hU];simp
 have hUs:∀k r,refs[k]?=some r→U (k+1)=U k++((acc[r.toNat]?).getD []).flatMap λa=>bl.map (mkA a):=by
  intro k r h;rw[hU,hU,oW,h];simp
 refine AY refs.length (λk s=>∃J',s.h=H++J'∧AG s.e 1= .mref mx∧AG s.e 6= .ref r6 0∧AG s.e 7= .own 84 4 ((U k).map F.V)∧AG s.e 37= .v (AH .i64 refs)∧AG s.e 38= .v (.int .i64 refs.length)∧AG s.e 39= .v (.int .i64 k)) ⟨J,rfl,rfl,rfl,by simp[hU0],rfl,rfl,rfl⟩ ?_;rintro k ⟨se,sh⟩ hk ⟨J',rfl,f1,f6,f7,f37,f38,f39⟩;simp only at f1 f6 f7 f37 f38 f39;have h6':=λZ=>AV Z h6;have hmx':∀Z,(H++Z)[mx]?=some (.map (EJ 0 (acc.map λl=>V.list (l.map F.V))) (List.range (acc.map λl=>V.list (l.map F.V)).length) (acc.map λl=>V.list (l.map F.V)).length):=λZ=>AV Z hmx;simp only[Zw,A8 64 1,AA 64 8];simp[f1,f6,f7,f37,f38,f39,AH];by_cases hkl:k <refs.length
 ·obtain⟨r,hr⟩:∃r,refs[k]?=some r:=⟨_,oI hkl⟩;have hrm:=oK hr;have hrr:=hrefs r hrm;have w1:=Bb k;obtain⟨j,rfl⟩:∃j:Nat,r=j:=⟨r.toNat,by omega⟩;obtain⟨al,hal⟩:∃al,acc[j]?=some al:=⟨_,oI (by omega)⟩;have hgd:(acc[((j:Int)).toNat]?).getD []=al:=by simp[hal]
  have hls:=hlen (k+1) hkl;have hbb:=hb _ hrm;have haa:=haln _ hrm;rw[hUs k _ hr]at hls ⊢;rw[hgd]at hls hbb haa ⊢;have hf:Cv false [0] (.int .i64 j) (EJ 0 (acc.map λl=>V.list (l.map F.V)))=some (some j):=by rw[dH,if_pos (by omega)]
  have hgv:(EJ 0 (acc.map λl=>V.list (l.map F.V)))[j]?=some (.int .i64 j,.list (al.map F.V)):=by
   have:=HL (acc.map λl=>V.list (l.map F.V)) 0 j (.list (al.map F.V)) (by simp[hal]);simpa using this
  have hfl:((al.flatMap λa=>bl.map (mkA a))).length=al.length*bl.length:=by
   clear hls hbb haa hal hgd hgv;induction al with
   |nil=>simp
   |cons x l ih=>rw[oZ,oL,ih,oi,oj,qK];omega
  rw[oL,hfl]at hls;have hc:=λd37 d38 d39 J Q=>jx H r6 al bl (U k) h6 hbb hls (by omega) (.mref mx) d37 d38 d39 J Q;generalize U k=R at*;rw[if_pos (by omega),AD];simp only[AA 64 9];simp[hr];simp only[AA 64 10];simp[hmx',Bj,V.eqL,V.eq1,hf,hgv,Du];have hmb:al.length*bl.length≤64:=by omega
  have w2:IntKind.i64.wrap ((al.length:Int)*bl.length)=((al.length*bl.length:Nat):Int):=by
   rw[←Int.natCast_mul];exact AL
  have w3:IntKind.i64.wrap ((R.length:Int)+((al.length*bl.length:Nat):Int))=((R.length+al.length*bl.length:Nat):Int):=by
   rw[←pr];exact AL
  have hgt:¬(64 <R.length+al.length*bl.length):=by omega
  simp only[AA 64 11];generalize al.length*bl.length=m at*;simp[h6',w2,w3];rw[if_neg (by omega),AD];simp only[AA 64 13];simp;simp at hc;refine hc _ _ _ _ _ ?_;intro J2 e g1 g6 g7 g37 g38 g39;simp[AA 64 25,g1,g6,g7,g37,g38,g39,w1,hkl]
 ·have hk2:k=refs.length:=by omega
  subst hk2;rw[if_neg (by omega),AJ];exact hQ _ _ (by simp)
theorem mz (h:List Row) (hl:Low h) (c:Clm) (hok:c.body.ok) (htl:c.body.tops.length≤64) (mx:Nat) (acc:List (List F)) (hmx:h[mx]?=some (EW (acc.map λl=>V.list (l.map F.V)))) (hrefs:∀r∈c.refs,0≤r∧r <acc.length) (hrn:c.refs.length≤8)
  (hb:∀r∈c.refs,∀a∈(acc[r.toNat]?).getD [],∀b∈c.body.tops,(mkA a b).ok∧BR (mkA a b)=0) (hlen:∀k,k≤c.refs.length→((c.refs.take k).flatMap λr=>((acc[r.toNat]?).getD []).flatMap λa=>c.body.tops.map (mkA a)).length≤64)
  (haln:∀r∈c.refs,((acc[r.toNat]?).getD []).length≤64):
  FX 64 [.v c.V,.mref mx] h [if c.refs=[] then .v (.list ((ER acc c).map F.V)) else .own 84 4 ((ER acc c).map F.V),.v (.bool true)] h:=by
 have hd:∀d∈[if c.refs=[] then D.v (.list ((ER acc c).map F.V)) else .own 84 4 ((ER acc c).map F.V),.v (.bool true)],D.lt h.length d=true:=by
  intro d hd;simp only[oO,o7,or_false]at hd;rcases hd with rfl|rfl
  ·split<;>rfl
  ·rfl
 refine Ak (D4 64) rfl (oN _) hl hd ?_;obtain⟨U,hU⟩:∃U:Nat→List F,∀k,U k=(c.refs.take k).flatMap λr=>((acc[r.toNat]?).getD []).flatMap λa=>c.body.tops.map (mkA a):=⟨_,λ_=>rfl⟩;have hUn:U c.refs.length=ER acc c∨c.refs=[]:=by
  by_cases h0:c.refs=[]
  ·exact .inr h0
  ·left;rw[hU,od];unfold ER;rw[if_neg h0]
 have hlo:=λ(H:List Row) r6 hm6 h6 J Q=>jy H r6 mx acc hm6 c.refs hrefs hrn c.body.tops h6 hb U hU (λk hk=>by rw[hU];exact hlen k hk) haln htl J Q;have q139:=λZ=>jY c.body (h++Z);obtain⟨refs,body⟩:=c;simp only at*;generalize hT:body.tops=T at*;have hmx':=λZ=>AV Z hmx;simp only[Zw,Ai 64,AA 64 0,AQ];simp[Clm.V];simp only[AA 64 1];simp;simp only[AA 64 2];simp;have hbv:body.V= .agg [.int .i64 body.op,.int .i64 body.n,.list (body.ins.map Ivl.V),.list (body.kids.map F.V)]:=by obtain⟨a,b,c,d⟩:=body;exact F.V_eq ..
 have q:=q139 [.cells [.v (AH .i64 refs),.v (.int .i64 body.op),.v (.int .i64 body.n),.v (.list (body.ins.map Ivl.V)),.v (.list (body.kids.map F.V))],.cells [.own 84 4 []]];rw[hbv]at q;refine⟨_,_,q,?_⟩;simp;obtain⟨e0,he0⟩:∃e0,e0=Hn [(1,D.mref mx),(2,.ref h.length 0),(6,.ref (h.length+1) 0),(7,.own 84 4 []),(20,.func 242 [.ref (h.length+2) 0])]:=⟨_,rfl⟩;obtain⟨C,hC⟩:∃C,C=Row.cells [.v (AH .i64 refs),.v (.int .i64 body.op),.v (.int .i64 body.n),.v (.list (body.ins.map Ivl.V)),.v (.list (body.kids.map F.V))]:=⟨_,rfl⟩;have hrun:=WJ h C (.cells body.cells) e0 (by rw[he0];simp[Hn]) T [] (by simp;omega);rw[←hT]at hrun;obtain⟨JJ,hp⟩:=gv body hok (h.length+3) (h.length+2) _ true _ hrun (by simp[Rz]);refine Ey (h.length+3) (by simp) 242 [.ref (h.length+2) 0] [] _ _ .ready rfl ?_ hp ?_ ?_
 ·rw[hC,he0];simp[Rz]
 ·rw[he0];simp[Rz]
 ·have hloop:=λJ Q=>hlo (h++[C,.cells [.own 84 4 (T.map F.V)],.cells body.cells,.dead]) (h.length+1) (AV _ hmx) (by simp) J Q;rw[hT];simp[CK,Rz];simp at hloop;rw[hC]at hloop ⊢;by_cases hr0:refs=[]
  ·subst hr0;simp only[AA 64 5];simp[AH];simp only[AS,AA 64 6];simp[AB,AW 64,ER,hT]
   try omega
  ·have hrp:¬(refs.length:Int)=0:=by cases refs with|nil=>exact absurd rfl hr0|cons=>simp;omega
   have hUn':=hUn.resolve_right hr0;simp only[AA 64 5];simp[AH,hr0,AD];simp only[AA 64 7];simp;simp[AH]at hloop;refine hloop _ _ ?_;intro J' e g7;rw[hUn']at g7;simp[AA 64 26,g7,AB,AW 64]
section
structure FP (s d:Nat) (f:F):Prop where
 nd:∀g∈f.nodes,g.ok1∧Az g=true∧Gn 6 g=true
 sz:f.size≤s
 dp:f.depth≤d
theorem FP.mono {s d s' d':Nat} {f:F} (h:FP s d f) (hs:s≤s') (hd:d≤d'):FP s' d' f:=⟨h.nd,pA h.sz hs,pA h.dp hd⟩
theorem FP.ok {s d:Nat} {f:F} (h:FP s d f) (hs:s≤96) (hd:d≤8):f.ok∧BR f=0∧f.nodes.all (Gn 6)=true:=by
 have h1:=h.sz;have h2:=h.dp;refine⟨⟨λg hg=>(h.nd g hg).1,by omega⟩,?_,oY.2 λg hg=>(h.nd g hg).2.2⟩;unfold BR;rw[if_neg (by omega),if_pos (oY.2 λg hg=>(h.nd g hg).2.1)]
theorem LW {d:Nat}:∀ {l:List F},(∀k∈l,k.depth≤d)→F.depths l≤d
 |[],_=>by simp[F.depths]
 |k::ks,h=>by
  have h1:=h k (by simp);have h2:=LW (l:=ks) λx hx=>h x (by simp[hx]);simp only[F.depths];omega
variable {n:Nat}
theorem FP.node {op:Int} (ho:op=4∨op=5) {kids:List F} {s d:Nat} (hk:∀k∈kids,FP n d k) (hs:(kids.map F.size).sum≤s):FP (1+s) (d+1) (.mk op 0 [] kids):=by
 refine⟨λg hg=>?_,by rw[F.size_eq];omega,?_⟩
 ·rw[F.nodes_eq]at hg;rcases oO.1 hg with rfl|hg
  ·refine⟨⟨?_,by simp[F.n,i64],by simp[F.ins],by simp[F.ins]⟩,?_,?_⟩
   ·rcases ho with rfl|rfl<;>simp[F.op,i64]
   ·rcases ho with rfl|rfl<;>simp[Az,F.op,F.n,F.ins]
   ·rcases ho with rfl|rfl<;>simp[Gn,F.op]
  ·obtain⟨k,hk1,hk2⟩:=pP.1 hg;exact(hk k hk1).nd g hk2
 ·have:=LW (l:=kids) λk hkk=>(hk k hkk).dp;simp only[F.depth];omega
structure CP (c:Clm):Prop where
 lr:c.refs.length≤2
 body:FP 7 3 c.body
 nt:c.body.tops.length≤2
 tops:∀p∈c.body.tops,FP 3 2 p
def sB:Nat→Nat
 |0=>7
 |k+1=>9+2*sB k
variable {b:Nat}
theorem QL {a:Nat} (h:a≤b):sB a≤sB b:=by
 induction h with
 |refl=>exact oN _
 |step _ ih=>simp only[sB];omega
theorem SO {α:Type} (f:α→Nat) (n:Nat):∀l:List α,(∀x∈l,f x≤n)→(l.map f).sum≤n*l.length
 |[],_=>by simp
 |x::l,h=>by
  have h1:=h x (by simp);have h2:=SO f n l λy hy=>h y (by simp[hy]);simp only[oV,qL,oj,rN];omega
theorem Sy (T:List Clm) (hc:∀c∈T,CP c) (hlow:∀(k:Nat) (c:Clm),T[k]?=some c→∀r∈c.refs,0≤r∧r <(k:Int)):∀(k:Nat) (c:Clm),T[k]?=some c→FP (sB k) (3+2*k) (DQ (BA (T.take k)) c):=by
 intro k;induction k using Nat.strongRecOn with
 |_ k ih=>
  intro c hk;have hcp:=hc c (oK hk);unfold DQ;by_cases h0:c.refs=[]
  ·rw[if_pos h0];exact hcp.body.mono (QL (pg k)) (by omega)
  ·rw[if_neg h0];have hkl:k <T.length:=(oM.1 hk).1;have hk0:0 <k:=by
    obtain⟨r,hr⟩:=List.exists_mem_of_ne_nil _ h0;have:=hlow k c hk r hr;omega
   obtain⟨j,rfl⟩:∃j,k=j+1:=⟨k-1,by omega⟩;have hm:∀r∈c.refs,FP (sB j) (3+2*j) (((BA (T.take (j+1)))[r.toNat]?).getD c.body):=by
    intro r hr;have hrl:=hlow _ c hk r hr;have hrk:r.toNat <j+1:=by omega
    obtain⟨c',hc'⟩:∃c',T[r.toNat]?=some c':=⟨_,oI (by omega)⟩;have h1:=ih r.toNat hrk c' hc';have h2:(BA (T.take (j+1)))[r.toNat]?=some (DQ (BA (T.take r.toNat)) c'):=by
     have e1:(BA (T.take (r.toNat+1)))[r.toNat]?=some (DQ (BA (T.take r.toNat)) c'):=by
      rw[GC T hc'];have:(BA (T.take r.toNat)).length=r.toNat:=by rw[C5,ol];omega
      rw[pC (by omega),this,rI];rfl
     rw[Dk T (r.toNat+1) (by omega),oz,if_pos (by omega)]at e1;rw[Dk T (j+1) (by omega),oz,if_pos hrk];exact e1
    rw[h2,og];exact h1.mono (QL (by omega)) (by omega)
   have hor:FP (1+sB j*c.refs.length) (3+2*j+1) (.mk 5 0 [] (c.refs.map λr=>((BA (T.take (j+1)))[r.toNat]?).getD c.body)):=by
    refine FP.node (.inr rfl) (n:=sB j) (λf hf=>?_) ?_
    ·obtain⟨r,hr,rfl⟩:=oP.1 hf;exact hm r hr
    ·have:=SO F.size (sB j) (c.refs.map λr=>((BA (T.take (j+1)))[r.toNat]?).getD c.body) λf hf=>by
      obtain⟨r,hr,rfl⟩:=oP.1 hf;exact(hm r hr).sz
     rw[oi]at this;exact this
   have hl2:sB j*c.refs.length≤sB j*2:=rm _ hcp.lr;have h7:7≤sB j:=QL (pg j);have hand:=FP.node (op:=4) (.inl rfl) (kids:=[c.body,.mk 5 0 [] (c.refs.map λr=>((BA (T.take (j+1)))[r.toNat]?).getD c.body)]) (s:=8+sB j*2) (d:=3+2*j+1) (n:=7+(1+sB j*2)) (λf hf=>by
    simp only[oO,o7,or_false]at hf;rcases hf with rfl|rfl
    ·exact hcp.body.mono (by omega) (by omega)
    ·exact hor.mono (by omega) (oN _)) (by
    have h1:=hcp.body.sz;have h2:=hor.sz;simp only[oV,pf,qL,List.sum_nil];omega)
   refine hand.mono ?_ (by omega);simp only[sB];omega
theorem MS (T:List Clm) (hn:T.length≤3) (hc:∀c∈T,CP c) (hlow:∀(k:Nat) (c:Clm),T[k]?=some c→∀r∈c.refs,0≤r∧r <(k:Int)):∀f∈BA T,f.ok∧BR f=0∧f.nodes.all (Gn 6)=true:=by
 intro f hf;obtain⟨k,hk⟩:=qW.1 hf;have hkl:k <T.length:=by rw[←C5 T];exact(oM.1 hk).1
 obtain⟨c,hck⟩:∃c,T[k]?=some c:=⟨_,oI hkl⟩;have h1:=Sy T hc hlow k c hck;have h2:(BA T)[k]?=some (DQ (BA (T.take k)) c):=by
  have e1:(BA (T.take (k+1)))[k]?=some (DQ (BA (T.take k)) c):=by
   rw[GC T hck];have:(BA (T.take k)).length=k:=by rw[C5,ol];omega
   rw[pC (by omega),this,rI];rfl
  rw[Dk T (k+1) (by omega),oz,if_pos (by omega)]at e1;exact e1
 rw[hk]at h2;simp only[oH]at h2;subst h2;have hs:sB k≤sB 2:=QL (by omega);have e2:sB 2=55:=by decide
 exact h1.ok (by omega) (by omega)
theorem Fu (l:List Clm):(CA l).length=l.length:=by
 have:∀(l:List Clm) (acc:List (List F)),(l.foldl (λacc c=>acc++[ER acc c]) acc).length=acc.length+l.length:=by
  intro l;induction l with
  |nil=>simp
  |cons c l ih=>intro acc;rw[qj,ih];simp;omega
 have h:=this l [];rw[qP,px]at h;exact h
variable {k:Nat}
theorem Mp (l:List Clm) {c:Clm} (h:l[k]?=some c):CA (l.take (k+1))=CA (l.take k)++[ER (CA (l.take k)) c]:=by
 rw[oW,h];unfold CA;rw[qd];rfl
theorem JK (l:List Clm):∀k,k≤l.length→CA (l.take k)=(CA l).take k:=by
 have:∀(l m:List Clm),(CA (l++m)).take l.length=CA l:=by
  intro l m;unfold CA;rw[qd];have:∀(m:List Clm) (acc:List (List F)),∃t,m.foldl (λacc c=>acc++[ER acc c]) acc=acc++t:=by
   intro m;induction m with
   |nil=>intro acc;exact⟨[],by simp⟩
   |cons c m ih=>
    intro acc;obtain⟨t,ht⟩:=ih (acc++[ER acc c]);exact⟨[ER acc c]++t,by rw[qj,ht];simp⟩
  obtain⟨t,ht⟩:=this m (l.foldl (λacc c=>acc++[ER acc c]) []);rw[ht];have:=Fu l;unfold CA at this;rw[qp (by omega),o6 (by omega)]
 intro k hk;have h:=this (l.take k) (l.drop k);rw[pQ]at h;rw[←h,ol,qH hk]
theorem Kn (l:List Clm) {c:Clm} (h:l[k]?=some c) (n:Nat) (hn:k <n) (hl:n≤l.length):(CA (l.take n))[k]?=some (ER (CA (l.take k)) c):=by
 have hkl:k <l.length:=(oM.1 h).1;have e1:(CA (l.take (k+1)))[k]?=some (ER (CA (l.take k)) c):=by
  rw[Mp l h];have:(CA (l.take k)).length=k:=by rw[Fu,ol];omega
  rw[pC (by omega),this,rI];rfl
 rw[JK l (k+1) (by omega),oz,if_pos (by omega)]at e1;rw[JK l n hl,oz,if_pos hn];exact e1
structure AP (s:Nat) (f:F):Prop where
 parts:∀p∈BG f,FP s 2 p
 sum:((BG f).map F.size).sum≤s
 all:FP (s+1) 3 f
theorem AP.mono {s s':Nat} {f:F} (h:AP s f) (hs:s≤s'):AP s' f:=⟨λp hp=>(h.parts p hp).mono hs (oN _),pA h.sum hs,h.all.mono (by omega) (oN _)⟩
theorem AP.piece {f:F} (h:FP 3 2 f):AP 3 f:=by
 have hall:FP 4 3 f:=h.mono (by decide) (by decide);obtain⟨op,n,ins,kids⟩:=f;have hsz:=h.sz;have hdp:=h.dp;rw[F.size_eq]at hsz;by_cases h4:op=4
 ·have hp:BG (.mk op n ins kids)=kids:=by simp[BG,F.op,F.kids,h4]
  refine⟨λp hpm=>?_,?_,hall⟩
  ·rw[hp]at hpm;have h1:=F.kid_size hpm;refine⟨λg hg=>h.nd g ?_,by omega,?_⟩
   ·rw[F.nodes_eq];exact qZ _ (pP.2 ⟨p,hpm,hg⟩)
   ·have:∀(l:List F),p∈l→p.depth≤F.depths l:=by
     intro l;induction l with
     |nil=>intro h;cases h
     |cons x l ih=>
      intro h;simp only[F.depths];rcases oO.1 h with rfl|h
      ·omega
      ·have:=ih h;omega
    have:=this kids hpm;simp only[F.depth]at hdp;omega
  ·rw[hp];omega
 ·have hp:BG (.mk op n ins kids)=[.mk op n ins kids]:=by simp[BG,F.op,h4]
  refine⟨λp hpm=>?_,?_,hall⟩
  ·rw[hp]at hpm;rw[oS.1 hpm];exact h
  ·rw[hp];simp only[oV,pf,qL,List.sum_nil,F.size_eq];omega
theorem AP.mkA {s s':Nat} {a b:F} (ha:AP s a) (hb:AP s' b):AP (s+s') (mkA a b):=by
 have hp:BG (Go.Va.mkA a b)=BG a++BG b:=by simp[Go.Va.mkA,BG,F.op,F.kids]
 have hparts:∀p∈BG a++BG b,FP (s+s') 2 p:=by
  intro p hpm;rcases oc.1 hpm with h|h
  ·exact(ha.parts p h).mono (by omega) (oN _)
  ·exact(hb.parts p h).mono (by omega) (oN _)
 have hsum:((BG a++BG b).map F.size).sum≤s+s':=by
  rw[oh,List.sum_append];have:=ha.sum;have:=hb.sum;omega
 refine⟨by rw[hp];exact hparts,by rw[hp];exact hsum,?_⟩;have:=FP.node (op:=4) (.inl rfl) hparts hsum;exact this.mono (by omega) (by omega)
def lB:Nat→Nat
 |0=>2
 |k+1=>4*lB k
theorem Qe {a:Nat} (h:a≤b):lB a≤lB b:=by
 induction h with
 |refl=>exact oN _
 |step _ ih=>simp only[lB];omega
theorem HG {α β:Type} (f:α→List β) (n:Nat):∀l:List α,(∀x∈l,(f x).length≤n)→(l.flatMap f).length≤n*l.length
 |[],_=>by simp
 |x::l,h=>by
  have h1:=h x (by simp);have h2:=HG f n l λy hy=>h y (by simp[hy]);simp only[oZ,oL,oj,rN];omega
theorem Ko (T:List Clm) (hc:∀c∈T,CP c) (hlow:∀(k:Nat) (c:Clm),T[k]?=some c→∀r∈c.refs,0≤r∧r <(k:Int)):∀(k:Nat) (c:Clm),T[k]?=some c→
  (ER (CA (T.take k)) c).length≤lB k∧∀f∈ER (CA (T.take k)) c,AP (3*(k+1)) f:=by
 intro k;induction k using Nat.strongRecOn with
 |_ k ih=>
  intro c hk;have hcp:=hc c (oK hk);unfold ER;by_cases h0:c.refs=[]
  ·rw[if_pos h0];refine⟨pA hcp.nt (Qe (pg k)),λf hf=>(AP.piece (hcp.tops f hf)).mono (by omega)⟩
  ·rw[if_neg h0];have hkl:k <T.length:=(oM.1 hk).1;have hk0:0 <k:=by
    obtain⟨r,hr⟩:=List.exists_mem_of_ne_nil _ h0;have:=hlow k c hk r hr;omega
   obtain⟨j,rfl⟩:∃j,k=j+1:=⟨k-1,by omega⟩;have hm:∀r∈c.refs,∃L,((CA (T.take (j+1)))[r.toNat]?).getD []=L∧L.length≤lB j∧∀f∈L,AP (3*(j+1)) f:=by
    intro r hr;have hrl:=hlow _ c hk r hr;have hrk:r.toNat <j+1:=by omega
    obtain⟨c',hc'⟩:∃c',T[r.toNat]?=some c':=⟨_,oI (by omega)⟩;obtain⟨h1,h1'⟩:=ih r.toNat hrk c' hc';have h2:=Kn T hc' (j+1) hrk (by omega);refine⟨_,by rw[h2,og],pA h1 (Qe (by omega)),λf hf=>(h1' f hf).mono (by omega)⟩
   constructor
   ·have h1:=HG (λr=>((((CA (T.take (j+1)))[r.toNat]?).getD []).flatMap λa=>c.body.tops.map λb=>Go.Va.mkA a b)) (2*lB j) c.refs (λr hr=>by
     obtain⟨L,hL,hl,_⟩:=hm r hr;rw[hL];have:=HG (λa=>c.body.tops.map λb=>Go.Va.mkA a b) 2 L (λa _=>by rw[oi];exact hcp.nt);have h3:2*L.length≤2*lB j:=rm _ hl;omega)
    have h2:2*lB j*c.refs.length≤2*lB j*2:=rm _ hcp.lr;simp only[lB];omega
   ·intro f hf;obtain⟨r,hr,hf⟩:=pP.1 hf;obtain⟨L,hL,_,hap⟩:=hm r hr;rw[hL]at hf;obtain⟨a,ha,hf⟩:=pP.1 hf;obtain⟨b,hb,rfl⟩:=oP.1 hf;exact(AP.mkA (hap a ha) (AP.piece (hcp.tops b hb))).mono (by omega)
theorem UG (T:List Clm) (hn:T.length≤3) (hc:∀c∈T,CP c) (hlow:∀(k:Nat) (c:Clm),T[k]?=some c→∀r∈c.refs,0≤r∧r <(k:Int)) (k:Nat) (hk:k <T.length):Rv 6 (Bm T k):=by
 obtain⟨c,hck⟩:∃c,T[k]?=some c:=⟨_,oI hk⟩;obtain⟨h1,h2⟩:=Ko T hc hlow k c hck;have h3:=Kn T hck T.length hk (oN _);rw[od]at h3;have e:Bm T k=ER (CA (T.take k)) c:=by unfold Bm;rw[qT,h3];rfl
 rw[e];have hl:lB k≤lB 2:=Qe (by omega);have e2:lB 2=32:=by decide
 refine⟨by omega,λf hf=>?_⟩;exact(h2 f hf).all.ok (by omega) (by omega)
end
structure AltOK (T:List Clm):Prop where
 len:T.length≤32
 body:∀c∈T,c.body.ok∧c.body.tops.length≤64∧c.refs.length≤8
 low:∀(k:Nat) (c:Clm),T[k]?=some c→∀r∈c.refs,0≤r∧r <(k:Int)
 mka:∀(k:Nat) (c:Clm),T[k]?=some c→(∀r∈c.refs,∀a∈((CA (T.take k))[r.toNat]?).getD [],∀b∈c.body.tops,(mkA a b).ok∧BR (mkA a b)=0)
 pre:∀(k:Nat) (c:Clm),T[k]?=some c→∀j,j≤c.refs.length→((c.refs.take j).flatMap λr=>(((CA (T.take k))[r.toNat]?).getD []).flatMap λa=>c.body.tops.map (mkA a)).length≤64
 one:∀(k:Nat) (c:Clm),T[k]?=some c→∀r∈c.refs,(((CA (T.take k))[r.toNat]?).getD []).length≤64
def Gk (l:List F):V:= .list (l.map F.V)
theorem nr (T:List Clm) (hT:AltOK T) (h:List Row) (hl:Low h) (d1:V) (m:Nat) (hm:m≤T.length) (Q:AExit→St→Prop)
  (hQ:∀e J,AG e 1= .v d1→AG e 7= .mref h.length→Q (.exit 0) ⟨e,h++EW ((CA (T.take m)).map Gk)::J⟩):
  awp Tryz.prog Ah (.loop (lG 24 0)) Q ⟨[(1,.v d1),(7,.mref h.length),(24,.v (.list ((T.take m).map Clm.V))),(25,.v (.int .i64 m)),(26,.v (.int .i64 (0:Nat)))],h++[EW []]⟩:=by
 refine AY m (λk s=>∃J,Lows J∧s=⟨[(1,.v d1),(7,.mref h.length),(24,.v (.list ((T.take m).map Clm.V))),(25,.v (.int .i64 m)),(26,.v (.int .i64 k))],h++EW ((CA (T.take k)).map Gk)::J⟩) ⟨[],Lows.nil,by simp[CA]⟩ ?_;rintro k s hk ⟨J,hJ,rfl⟩;simp only[Zw,A8 24 0,AA 24 6];simp;by_cases hkl:k <m
 ·obtain⟨c,hc⟩:∃c,T[k]?=some c:=⟨_,oI (by omega)⟩;have hcm:=oK hc;have hTl:=hT.len;have w1:=Bb k;have hat:=Mp T hc;have hal:(CA (T.take k)).length=k:=by rw[Fu,ol];omega
  have hcv:((T.take m).map Clm.V)[k]?=some c.V:=by simp[hkl,hc]
  obtain⟨hb1,hb2,hb3⟩:=hT.body c hcm;have hlc:∀n,Row.low n (.cells [.v (AH .i64 c.refs),.v (.int .i64 c.body.op),.v (.int .i64 c.body.n),.v (.list (c.body.ins.map Ivl.V)),.v (.list (c.body.kids.map F.V))])=true:=λn=>rfl;have q:=mz (h++EW ((CA (T.take k)).map Gk)::(J++[.cells [.v (AH .i64 c.refs),.v (.int .i64 c.body.op),.v (.int .i64 c.body.n),.v (.list (c.body.ins.map Ivl.V)),.v (.list (c.body.kids.map F.V))]]))
   (hl.lows (by
    intro row hrow n;rcases oO.1 hrow with rfl|hrow
    ·rfl
    ·exact(hJ.app hlc) row hrow n)) c hb1 hb2 h.length (CA (T.take k)) (by simp;rfl) (λr hr=>by have:=hT.low k c hc r hr;omega) hb3 (hT.mka k c hc) (hT.pre k c hc) (hT.one k c hc)
  have hput:=OJ ((CA (T.take k)).map Gk) (Gk (ER (CA (T.take k)) c));rw[oi,hal,←List.map_singleton (f:=Gk),←oh]at hput;have hmf:Cv false [0] (.int .i64 k) (EJ 0 ((CA (T.take k)).map Gk))=some none:=by
   rw[IH false,if_neg (by simp;omega)]
  have hmr:EW ((CA (T.take k)).map Gk)= .map (EJ 0 ((CA (T.take k)).map Gk)) (List.range k) k:=by unfold EW;rw[oi,hal]
  rw[hat,←hput];rw[hmr]at q ⊢;generalize ER (CA (T.take k)) c=R at*;generalize EJ 0 ((CA (T.take k)).map Gk)=E at*;have hRV:Gk R= .list (R.map F.V):=rfl;rw[hRV];obtain⟨refs,body⟩:=c;simp only[Clm.V,AH]at*;simp at hcv;rw[if_pos (by omega),AD];simp only[AA 24 7];simp[hcv,AO];simp only[AA 24 8];simp;by_cases hr0:refs=[]
  ·rw[if_pos hr0]at q;refine⟨_,_,q,?_⟩;simp[AA 24 9,AA 24 10,Bj,V.eqL,V.eq1,hmf,AA 24 11,w1,hkl];exact hJ.app hlc
  ·rw[if_neg hr0]at q;refine⟨_,_,q,?_⟩;simp[AA 24 9,AA 24 10,Bj,V.eqL,V.eq1,hmf,AA 24 11,w1,hkl];exact hJ.app hlc
 ·have hk2:k=m:=by omega
  subst hk2;rw[if_neg (by omega),AJ];exact hQ _ _ rfl rfl
theorem nO (T:List Clm) (hT:AltOK T) (hok:∀c∈T,c.ok) (hz:CD T=0) (i:Nat) (hi:i <T.length):PX 24 [.list (T.map Clm.V),.int .i64 i] [.list ((Bm T i).map F.V),.int .i64 0]:=by
 refine E6 (args:=[_,_]) (rets:=[_,_]) ?_;refine Ak (D4 24) rfl (oN _) (by intro row h;cases h) (by simp[D.lt]) ?_;have hlen:=hT.len;have q1:=(lu T hok (by omega) hz i hi).fsp;have hloop:=nr T hT [] (by intro row h;cases h) (.int .i64 i) (i+1) hi;have w1:=Bb i;have e1:((i:Int)+1).toNat=i+1:=by omega
 have hho:=TJ T;obtain⟨f,hf⟩:∃f,(CA T)[i]?=some f:=⟨_,oI (by rw[Fu];exact hi)⟩;have hf2:(CA (T.take (i+1)))[i]?=some f:=by
  rw[JK T (i+1) hi,oz,if_pos (by omega)];exact hf
 have hfa:Bm T i=f:=by unfold Bm;simp[hf]
 have hn:((CA (T.take (i+1))).map Gk).length=i+1:=by rw[oi,Fu,ol];omega
 have hm:Cv false [0] (.int .i64 i) (EJ 0 ((CA (T.take (i+1))).map Gk))=some (some i):=by
  rw[IH false,if_pos (by rw[hn];omega)];simp
 have hg:(EJ 0 ((CA (T.take (i+1))).map Gk))[i]?=some (.int .i64 i,.list (f.map F.V)):=by
  have:=HL ((CA (T.take (i+1))).map Gk) 0 i (Gk f) (by simp[hf2]);simpa[Gk]using this
 rw[hfa];unfold EW at hloop;generalize (CA (T.take (i+1))).map Gk=es at*;simp only[Zw,Ai 24,AA 24 0,AQ];simp;simp only[AA 24 1];simp;refine⟨_,_,q1 _,?_⟩;simp[AA 24 2,AD,AA 24 4];simp only[AA 24 5];simp[w1,e1,hho,show 0≤(i:Int)+1 by omega,show i+1≤T.length from hi];simp[EJ]at hloop;refine hloop _ ?_;intro e J g1 g7;simp[AA 24 12,g1,g7,Bj,V.eqL,V.eq1,hm,hg,Du,AA 24 13,AA 24 15,AB,AW 24]
section
theorem aW (k:Int):Gn 6 (Cq k)=true:=by
 have h:=rM (IntKind.i64.wrap (k.tdiv 8)) (b:=6) (by decide);simp only[Gn,Cq,F.op,F.n,decide_true,pB,pd];exact decide_eq_false (Int.not_le.2 h)
theorem M6 {f:F} (h:f.op≠1):Gn 6 f=true:=by simp[Gn,h]
structure P3 (f:F):Prop where
 sz:f.size≤3
 dp:f.depth≤2
 cl:∀g∈f.nodes,Gn 6 g=true
 op:f.op≠5
theorem ML (n:Int):P3 (DR n):=by
 unfold DR;generalize An n 1048576=k;have hC:Gn 6 (DH k)=true:=M6 (by simp[DH,F.op]);have hA:=aW k;have nA:(Cq k).nodes=[Cq k]:=by unfold Cq;rw[F.nodes_eq];simp
 have nC:(DH k).nodes=[DH k]:=by unfold DH;rw[F.nodes_eq];simp
 have sA:(Cq k).size=1:=by unfold Cq;rw[F.size_eq];simp
 have sC:(DH k).size=1:=by unfold DH;rw[F.size_eq];simp
 have dA:(Cq k).depth=1:=by simp[Cq,F.depth,F.depths]
 have dC:(DH k).depth=1:=by simp[DH,F.depth,F.depths]
 simp only
 repeat' split
 ·exact⟨by omega,by omega,by rw[nA];simpa using hA,by simp[Cq,F.op]⟩
 ·exact⟨by omega,by omega,by rw[nC];simpa using hC,by simp[DH,F.op]⟩
 ·refine⟨by rw[F.size_eq];simp[sA,sC],by simp[F.depth,F.depths,dA,dC],?_,by simp[F.op]⟩;rw[F.nodes_eq];simp only[oZ,rO,nA,nC];intro g hg;simp at hg;rcases hg with rfl|rfl|rfl
  ·exact M6 (by simp[F.op])
  ·exact hC
  ·exact hA
 ·refine⟨by rw[F.size_eq];simp[sA],by simp[F.depth,F.depths,dA],?_,by simp[F.op]⟩;rw[F.nodes_eq];simp only[oZ,rO,nA];intro g hg;simp at hg;rcases hg with rfl|rfl
  ·exact M6 (by simp[F.op])
  ·exact hA
 ·refine⟨by rw[F.size_eq];simp[sA],by simp[F.depth,F.depths,dA],?_,by simp[F.op]⟩;rw[F.nodes_eq];simp only[oZ,rO,nA];intro g hg;simp at hg;rcases hg with rfl|rfl
  ·exact M6 (by simp[F.op])
  ·exact hA
theorem P3.tops {f:F} (h:P3 f):f.tops=[f]:=by
 have h5:=h.op;obtain⟨o,n,i,k⟩:=f;rw[F.tops_eq,if_neg (show ¬o=5 from h5)]
theorem P3.fp {f:F} (h:P3 f) (ho:∀g∈f.nodes,g.ok1) (hf:∀g∈f.nodes,Az g=true):FP 3 2 f:=⟨λg hg=>⟨ho g hg,hf g hg,h.cl g hg⟩,h.sz,h.dp⟩
theorem Of {f:F} (h:BR f=0):∀g∈f.nodes,Az g=true:=by
 unfold BR at h;split at h
 ·cases h
 ·split at h
  ·rename_i hall;exact oY.1 hall
  ·cases h
theorem Rg (l:List Int) (i:Nat) (hi:i≤3) (hz:BR (GO l i).body=0):CP (GO l i):=by
 have ht:=HP l i hi;have hn:=Of hz;have ho:=λg hg=>(ht.body.one g hg).1;refine⟨ht.lr,?_,?_,?_⟩
 all_goals
  revert hn ho
  unfold GO;generalize Ae l (2*i+1) 1000=k;generalize Ae l (2*i+2) 1048576=m;simp only;have p1:=ML m;have p2:=ML (IntKind.i64.wrap (k.tdiv 4));generalize DR m=a at*;generalize DR (IntKind.i64.wrap (k.tdiv 4))=b at*;split
  all_goals intro hn ho
 ·have ha:FP 3 2 a:=p1.fp (λg hg=>ho g (by rw[F.nodes_eq];simp[hg])) (λg hg=>hn g (by rw[F.nodes_eq];simp[hg]));have hb:FP 3 2 b:=p2.fp (λg hg=>ho g (by rw[F.nodes_eq];simp[hg])) (λg hg=>hn g (by rw[F.nodes_eq];simp[hg]));exact FP.node (s:=6) (.inr rfl) (kids:=[a,b]) (by
   intro x hx;simp at hx;rcases hx with rfl|rfl
   ·exact ha
   ·exact hb) (by have:=p1.sz;have:=p2.sz;simp;omega)
 ·exact(p1.fp ho hn).mono (by decide) (by decide)
 ·rw[F.tops_eq,if_pos rfl];simp[p1.tops,p2.tops]
 ·rw[p1.tops];simp
 ·rw[F.tops_eq,if_pos rfl];simp only[oZ,rO,p1.tops,p2.tops];intro x hx;simp at hx;rcases hx with rfl|rfl
  ·exact p1.fp (λg hg=>ho g (by rw[F.nodes_eq];simp[hg])) (λg hg=>hn g (by rw[F.nodes_eq];simp[hg]))
  ·exact p2.fp (λg hg=>ho g (by rw[F.nodes_eq];simp[hg])) (λg hg=>hn g (by rw[F.nodes_eq];simp[hg]))
 ·rw[p1.tops];intro x hx;simp at hx;subst hx;exact p1.fp ho hn
variable {k:Nat}
theorem Ou {T:List Clm} (hz:CD T=0) {c:Clm} (hk:T[k]?=some c):Dq c.refs k=true∧BR c.body=0:=by
 unfold CD at hz;split at hz
 ·cases hz
 ·have hlt:=(oM.1 hk).1;have h:=IP _ _ hz k (by omega) (by omega);unfold JE at h;rw[hk]at h;simp only[LZ]at h;split at h
  ·cases h
  ·split at h
   ·rename_i h2;exact⟨h2,h⟩
   ·cases h
theorem Sd {l:List Int} {i:Int} (h:Dq l i=true):∀r∈l,0≤r∧r <i:=by
 have hall:∀k <l.length,DA l k <l.getD k 0∧l.getD k 0 <i:=by
  intro k hk;unfold Dq at h;simp only[pd,pu,oy]at h;have:=h k hk;simp only[Cb,decide_eq_true_eq,not_or,Int.not_le]at this;exact this
 have hpos:∀k <l.length,0≤l.getD k 0:=by
  intro k;induction k with
  |zero=>intro hk;have:=(hall 0 hk).1;simp only[DA]at this;omega
  |succ k ih=>intro hk;have h1:=(hall (k+1) hk).1;have h2:=ih (by omega);simp only[DA]at h1;omega
 intro r hr;obtain⟨k,hk,rfl⟩:=List.getElem_of_mem hr;have h1:=hpos k hk;have h2:=(hall k hk).2;have e:l.getD k 0=l[k]:=by simp[List.getD,hk]
 rw[e]at h1 h2;exact⟨h1,h2⟩
structure CsP (T:List Clm):Prop where
 n:T.length≤3
 cp:∀c∈T,CP c
 low:∀(k:Nat) (c:Clm),T[k]?=some c→∀r∈c.refs,0≤r∧r <(k:Int)
 z:CD T=0
 tiny:∀c∈T,c.tiny
theorem Ov (l:List Int) (hz:CD (B9 l)=0):CsP (B9 l):=by
 have hn:=Iu l;have hlen:(B9 l).length=H9 l:=by unfold B9;simp
 have hat:∀(k:Nat) (c:Clm),(B9 l)[k]?=some c→k <H9 l∧c=GO l k:=by
  intro k c h;have hk:=(oM.1 h).1;rw[hlen]at hk;unfold B9 at h;rw[oX,qI hk]at h;simp only[o9,oH]at h;exact⟨hk,h.symm⟩
 refine⟨by omega,?_,λk c h=>Sd (Ou hz h).1,hz,?_⟩
 ·intro c hc;obtain⟨k,hk⟩:=qW.1 hc;obtain⟨h1,rfl⟩:=hat k c hk;exact Rg l k (by omega) (Ou hz hk).2
 ·intro c hc;obtain⟨k,hk⟩:=qW.1 hc;obtain⟨h1,rfl⟩:=hat k c hk;exact HP l k (by omega)
theorem CsP.mean {T:List Clm} (h:CsP T):MeanOK T where
 len:=by have:=h.n;omega
 ok:=λc hc=>(h.tiny c hc).ok
 refs:=λc hc=>by have:=(h.cp c hc).lr;omega
 low:=h.low
 mean:=λf hf=>by have:=MS T h.n h.cp h.low f hf;exact⟨this.1,this.2.1⟩
theorem CsP.fine {r:Rgt} (h:CsP r.claims) (hb:r.bad.length≤2^40):r.fine 6:=⟨hb,h.mean,h.z,λf hf=>(MS r.claims h.n h.cp h.low f hf).2.2⟩
theorem CsP.alts {T:List Clm} (h:CsP T) (k:Nat) (hk:k <T.length):Rv 6 (Bm T k):=UG T h.n h.cp h.low k hk
end
theorem CsP.altOK {T:List Clm} (h:CsP T):AltOK T:=by
 have hk2:∀(k:Nat) (c:Clm),T[k]?=some c→k≤2:=λk c hk=>by
  have:=(oM.1 hk).1;have:=h.n;omega
 have hlB:∀k,k≤2→lB k≤32:=λk hk=>by
  have:=Qe hk;have e2:lB 2=32:=by decide
  omega
 refine⟨by have:=h.n;omega,λc hc=>?_,h.low,?_,?_,?_⟩
 ·have hcp:=h.cp c hc;exact⟨(hcp.body.ok (by decide) (by decide)).1,by have:=hcp.nt;omega,by have:=hcp.lr;omega⟩
 ·intro k c hk r hr a ha b hb;have h0:c.refs≠[]:=λe=>by rw[e]at hr;cases hr
  have hmem:mkA a b∈ER (CA (T.take k)) c:=by
   unfold ER;rw[if_neg h0];exact pP.2 ⟨r,hr,pP.2 ⟨a,ha,oP.2 ⟨b,hb,rfl⟩⟩⟩
  have h2:=(Ko T h.cp h.low k c hk).2 _ hmem;have hkk:=hk2 k c hk;have:=h2.all.ok (by omega) (by omega);exact⟨this.1,this.2.1⟩
 ·intro k c hk j hj;by_cases h0:c.refs=[]
  ·simp[h0]
  ·have h1:=(Ko T h.cp h.low k c hk).1;have hkk:=hlB k (hk2 k c hk);have e:ER (CA (T.take k)) c=c.refs.flatMap λr=>(((CA (T.take k))[r.toNat]?).getD []).flatMap λa=>c.body.tops.map λb=>mkA a b:=by
    unfold ER;rw[if_neg h0]
   rw[e]at h1;have hle:((c.refs.take j).flatMap λr=>(((CA (T.take k))[r.toNat]?).getD []).flatMap λa=>c.body.tops.map (mkA a)).length≤(c.refs.flatMap λr=>(((CA (T.take k))[r.toNat]?).getD []).flatMap λa=>c.body.tops.map λb=>mkA a b).length:=by
    conv=>rhs;rw[←pQ j c.refs,pm,oL]
    exact Nat.le_add_right _ _
   omega
 ·intro k c hk r hr;have hrl:=h.low k c hk r hr;have hkk:=hk2 k c hk;have hkl:=(oM.1 hk).1;obtain⟨c',hc'⟩:∃c',T[r.toNat]?=some c':=⟨_,oI (by omega)⟩;have h2:=Kn T hc' k (by omega) (by omega);rw[h2,og];have h1:=(Ko T h.cp h.low r.toNat c' hc').1;have:=hlB r.toNat (by omega);omega
theorem gj {T:List Clm} (h:CsP T) (i:Nat) (hi:i <T.length):PX 24 [.list (T.map Clm.V),.int .i64 i] [.list ((Bm T i).map F.V),.int .i64 0]:=
 nO T h.altOK (λc hc=>(h.tiny c hc).ok) h.z i hi
theorem Zm {T:List Clm} (h:CsP T) (i:Nat) (hi:i <T.length):PX 274 [.list (T.map Clm.V),.int .i64 i] [(Ar T i).V,.int .i64 0]:=
 gI T i hi h.mean h.z
theorem TT (p:Int) (hp:p <5) (i j:Nat) (hij:i <j) (hj:j <p.toNat):HI ((i+p).tmod 5)≠HI ((j+p).tmod 5):=by
 obtain⟨q,rfl⟩:∃q:Nat,p=q:=⟨p.toNat,by omega⟩;have hq:q <5:=by omega
 have hj':j <q:=by simpa using hj
 have:∀q:Nat,q <5→∀j:Nat,j <q→∀i:Nat,i <j→HI (((i:Int)+(q:Int)).tmod 5)≠HI (((j:Int)+(q:Int)).tmod 5):=by
  intro q hq j hj i hi;have h1:q=0∨q=1∨q=2∨q=3∨q=4:=by omega
  have h2:j=0∨j=1∨j=2∨j=3:=by omega
  have h3:i=0∨i=1∨i=2:=by omega
  rcases h1 with rfl|rfl|rfl|rfl|rfl<;>rcases h2 with rfl|rfl|rfl|rfl<;>rcases h3 with rfl|rfl|rfl<;>first|omega|decide
 exact this q hq j hj' i hij
theorem Dj (l:List Int):(Aj l).Pairwise λa b=>a.file≠b.file:=by
 unfold Aj;refine List.Pairwise.filter _ ?_;rw[List.pairwise_map];have hb:=EU l 0 5 (by decide);refine List.Pairwise.imp_of_mem ?_ (rD (n:=(Ae l 0 5).toNat));intro i j hi hj hij;have h2:=oy.1 hj;exact TT (Ae l 0 5) hb.2 i j hij h2
theorem EE {l:List Int} {r:Rgt} (h:r∈Aj l):∃i,r=Cp l i∧Aw r=true:=by
 unfold Aj at h;obtain⟨h1,h2⟩:=qC.1 h;obtain⟨i,_,rfl⟩:=oP.1 h1;exact⟨i,rfl,h2⟩
theorem Oe {r:Rgt} (h:Aw r=true):CD r.claims=0:=by
 unfold Aw at h;simp only[oJ,beq_iff_eq]at h;exact h.1.1.1.1.1.1.2
theorem DF {l:List Int} {r:Rgt} (h:r∈Aj l):CsP r.claims:=by
 obtain⟨i,rfl,hf⟩:=EE h;have hz:=Oe hf;have e:∃m,(Cp l i).claims=B9 m:=⟨_,rfl⟩;obtain⟨m,hm⟩:=e;rw[hm]at hz ⊢;exact Ov m hz
theorem Td {r:Rgt} (h:r.tiny 3):(Be r).length≤65536:=by
 have h1:=h.lc;have h2:=h.ld;have h3:=h.lb;have h4:=h.lo;have h5:=h.ll;have e0:=GM h.claims;have e1:=Ab r.file;have e2:=Ab r.state;have e3:=Ab r.force;have e4:=CV (BB r.claims).length;have e5:=Ab r.dates.length;have e6:=Cs EM r.dates;have e7:=GK r.bad;have e8:=Ab r.owners.length;have e9:=Cs EK r.owners;have e10:=Ab r.lics.length;have e11:=Cs EL r.lics;simp only[Be,BE,oL];omega
theorem HF {r:Rgt} (h:Aw r=true):0≤r.file∧r.file≤4095:=by
 unfold Aw at h;simp only[oJ]at h;have:=h.1.1.1.1.1.1.1.1.1;simp only[Dl,decide_eq_true_eq]at this;omega
theorem BN {l:List Int} {r:Rgt} (h:r∈Aj l):r.tiny 3:=by
 obtain⟨i,rfl,_⟩:=EE h;exact Jy l i
theorem Gz (l:List Int):∀j <(Aj l).length,Dt (Aj l) j=0:=by
 intro j hj;obtain⟨r,hr⟩:∃r,(Aj l)[j]?=some r:=⟨_,oI hj⟩;have hm:=oK hr;obtain⟨_,_,hf⟩:=EE hm;have hpw:=Dj l;have hany:((Aj l).take j).any (λq=>q.file==r.file)=false:=by
  rw[pu];intro q hq;have hsp:Aj l=(Aj l).take j++(Aj l).drop j:=(pQ j _).symm;rw[hsp,qA]at hpw;have hrd:r∈(Aj l).drop j:=by
   refine oK (i:=0) ?_;rw[pn,ql];exact hr
  have:=hpw.2.2 q hq r hrd;simpa using this
 have hfi:=HF hf;have hle:=Td (BN hm);rw[Kf hr,hf,if_pos rfl,hany];simp only[oa,if_false];unfold Eo;rw[if_pos hfi,if_neg (by omega)]
theorem Jx (l:List Int):K1 (Aj l)=0:=JW (Gz l)
section
def GJ (kind day:Int) (t:Th) (rs:List Rgt) (cl:List (Int×Int)):List V:=
 [.int .i64 kind,.int .i64 0,.int .i64 0,.int .i64 day,AH .i64 t.cs,.list (t.vs.map Val.V),.list (t.ps.map Th.V),.list (rs.map Rgt.V),.list (cl.map Bn),.list [],.list [],.list [],.list []]
def Pt (kind day:Int) (t:Th) (rs:List Rgt) (cl:List (Int×Int)):V:= .agg (GJ kind day t rs cl)
theorem NE (n:Nat) (kind day:Int) (t:Th) (rs:List Rgt) (cl:List (Int×Int)):Row.low n (.cells ((GJ kind day t rs cl).map .v))=true:=by
 simp only[Row.low];exact J7 _
variable {ps:List V}
theorem ir {c0:List (Int×Int)} {bs:List Bool} (hps:ps.length≤64) (hbs:bs.length=4096) (h:List Row) (x:Nat) (hx:h[x]?=some (Dn ps bs)) (hl:Low h) (t:Th) (ht:t.ok) (hte:Hb t=0) (htk:t.kinds ps.length=true)
  (kind day:Int) (rs:List Rgt) (hrs:rs.length≤2^10) (r:Rgt) (f i:Int) (hf:rs.find? (λq=>q.file==f)=some r) (hrd:r.dates.length <2^40) (has:Rv ps.length (Bm r.claims i))
  (q24:PX 24 [.list (r.claims.map Clm.V),.int .i64 i] [.list ((Bm r.claims i).map F.V),.int .i64 0]):
  FX 186 [.ref x 0,.v (Pt kind day t rs c0),.v (Bn (f,i))] h [.v (.bool (T7 (CO ps.length bs) t r i day)),.v (.int .i64 0)] h:=by
 refine Ak (D4 186) rfl (oN _) hl (by simp[D.lt]) ?_;have q24:=q24.fsp;have hlow:Low (h++[.cells ((GJ kind day t rs c0).map .v),.cells [.v (.int .i64 f),.v (.int .i64 i)]]):=hl.lows (by
  intro row hrow n;simp only[oO,o7,or_false]at hrow;rcases hrow with rfl|rfl
  ·exact NE n _ _ _ _ _
  ·simp[Row.low,D.lts,D.lt])
 have hidx:IdxR Tryz.prog Ah 276 [.ref (h.length+1) 0] (rs.map Rgt.V) (h++[.cells ((GJ kind day t rs c0).map .v),.cells [.v (.int .i64 f),.v (.int .i64 i)]]) (rs.findIdx? λq=>q.file==f) (h++[.cells ((GJ kind day t rs c0).map .v),.cells [.v (.int .i64 f),.v (.int .i64 i)]]):=
  IdxR.map λq _=>gG q f i _ (h.length+1) (by simp) hlow
 have hcf:=gH (.func 276 [.ref (h.length+1) 0]) 276 _ (FV.r 276 (h.length+1) 0 []) (rs.map Rgt.V) (by simp;omega) (by
  intro x hx;obtain⟨y,_,rfl⟩:=oP.1 hx;exact⟨_,rfl,rfl⟩) hidx
 obtain⟨j,hj1,hj2⟩:∃j,rs.findIdx? (λq=>q.file==f)=some j∧rs[j]?=some r:=by
  rcases LQ (λq:Rgt=>q.file==f) rs with ⟨h1,h2⟩|⟨j,y,h1,h2,h3⟩
  ·rw[h2]at hf;cases hf
  ·rw[hf]at h3;simp only[oH]at h3;subst h3;exact⟨j,h1,h2⟩
 rw[hj1]at hcf;have hlr:∀n,Row.low n (.cells (r.cs.map .v))=true:=λn=>by simp only[Row.low];exact J7 _
 have hloop:=λ(H:List Row) (hH:Low H) (hxH:H[x]?=some (Dn ps bs)) a4 a5 a9 d0 d1 d2 d7 d8 d9 d10 d11 d12 h4 h5 h9 Q hQ=>kN hps hbs H x hxH hH t ht hte htk r hrd f i day a4 a5 a9 d0 d1 d2 d7 d8 d9 d10 d11 d12 h4 h5 h9 (Bm r.claims i) has Q hQ;have hbr:T7 (CO ps.length bs) t r i day=HT (CO ps.length bs) t r i day 0 (Bm r.claims i):=rfl;rw[hbr];have hloop2:=hloop (h++[.cells ((GJ kind day t rs c0).map .v),.cells [.v (.int .i64 f),.v (.int .i64 i)],.cells (r.cs.map .v)]) (by have:=hlow.app (hlr _);simpa using this) (AV _ hx) h.length (h.length+1) (h.length+2);generalize Bm r.claims i=al at*;generalize HT (CO ps.length bs) t r i day 0 al=B at*;clear hloop hbr hidx has;obtain⟨cs,vs,pa⟩:=t;obtain⟨file,state,force,claims,dates,bad,owners,lics⟩:=r;simp only[Pt,GJ,Rgt.cs,Th.cs,Th.vs,Th.ps,Bn,AH]at*;simp at hcf q24 hloop2;simp only[Zw,Ai 186,AA 186 0,AA 186 1,AQ];simp;refine⟨_,_,hcf,?_⟩;simp[AA 186 2,DX,hj2,Rgt.V,Rgt.cs,AH,AO,V.getI];simp only[AA 186 3];simp;refine⟨_,_,q24 _,?_⟩;simp[AD,AA 186 4,AA 186 6,AA 186 7];refine hloop2 _ _ _ _ _ _ _ _ _ rfl rfl rfl rfl rfl rfl rfl rfl rfl _ ?_;intro e J he;simp[AA 186 15,he,AB,AW 186]
def IB (rs:List Rgt) (f:Int):Rgt:=(rs.find? λq=>q.file==f).getD ⟨0,0,0,[],[],[],[],[]⟩
def cw:AC:=(.seq (.seq (.reg (oG 90 21) [0,3,12,14,15,16,60,61,62,74]) (.cond (.t 74 false) (.seq (.reg (oG 90 22) [4,5,6]) .ret) .skip)) (.seq (.reg (oG 90 23) [0,3,12,14,60,61,62,76]) (.cond (.t 76 false) (.reg (oG 90 24) [0,3,12,60,61,62]) .skip)))
theorem Tp:(lG 90 1)=(.seq (.reg (oG 90 18) [0,3,12,60,61,62,63]) (.seq (.cond (.t 63 false) .skip (.exit 3)) (.seq (.block 4 (.seq (.reg (oG 90 19) [0,3,12,14,60,61,62]) (.seq (.reg (oG 90 20) [0,3,12,14,15,16,60,61,62]) cw))) (.reg (oG 90 25) [0,3,12,60,61,62])))):=(A8 90 1 :)
theorem nY {c0:List (Int×Int)} (h:List Row) (x:Nat) (kind day:Int) (t:Th) (rs:List Rgt) (cl:List (Int×Int)) (hcl:cl.length≤2^20) (b:Int×Int→Bool)
  (q186:∀c∈cl,∀Z,Lows Z→FX 186 [.ref x 0,.v (Pt kind day t rs c0),.v (Bn c)] (h++ .cells ((GJ kind day t rs c0).map .v)::Z) [.v (.bool (b c)),.v (.int .i64 0)] (h++ .cells ((GJ kind day t rs c0).map .v)::Z)) (Q:AExit→St→Prop)
  (hQ:∀e J,AG e 12= .own 76 2 ((cl.filter b).map Bn)→Q (.exit 3) ⟨e,h++ .cells ((GJ kind day t rs c0).map .v)::J⟩):
  awp Tryz.prog Ah (.loop (lG 90 1)) Q ⟨[(0,.ref x 0),(3,.ref h.length 0),(12,.own 76 2 []),(60,.v (.list (cl.map Bn))),(61,.v (.int .i64 cl.length)),(62,.v (.int .i64 (0:Nat)))],h++[.cells ((GJ kind day t rs c0).map .v)]⟩:=by
 refine AY cl.length (λk s=>∃J,Lows J∧s=⟨[(0,.ref x 0),(3,.ref h.length 0),(12,.own 76 2 (((cl.take k).filter b).map Bn)),(60,.v (.list (cl.map Bn))),(61,.v (.int .i64 cl.length)),(62,.v (.int .i64 k))],h++ .cells ((GJ kind day t rs c0).map .v)::J⟩)
  ⟨[],Lows.nil,by simp⟩ ?_
 rintro k s hk ⟨J,hJ,rfl⟩;rw[Tp];simp only[Zw,AA 90 18];simp;by_cases hkl:k <cl.length
 ·obtain⟨c,hc⟩:∃c,cl[k]?=some c:=⟨_,oI hkl⟩;have w1:=Bb k;have htk2:cl.take (k+1)=cl.take k++[c]:=by rw[oW,hc];rfl
  have hlc:∀n,Row.low n (.cells [.v (.int .i64 c.1),.v (.int .i64 c.2)])=true:=λn=>by simp[Row.low,D.lts,D.lt]
  have q1:=q186 c (oK hc) (J++[.cells [.v (.int .i64 c.1),.v (.int .i64 c.2)]]) (hJ.app hlc);have hlen:((cl.take k).filter b).length≤k:=by
   have:=pG b (cl.take k);rw[ol]at this;omega
  rw[htk2,pw,qt,rU];generalize (cl.take k).filter b=L at*;have hroom:AU (L.length+1) 16=true:=by simp[AU];omega
  generalize b c=B at*;obtain⟨c1,c2⟩:=c;obtain⟨cs,vs,pa⟩:=t;simp only[Pt,GJ,Th.cs,Th.vs,Th.ps,Bn,AH]at*;simp at q1;rw[if_pos (by omega),AD];simp only[AA 90 19];simp[hc,AO,Bn];simp only[AA 90 20];simp;refine⟨_,_,q1,?_⟩;unfold cw;simp[AE,AF,AK,AA 90 21,AD,AA 90 23];cases B with
  |false=>
   simp[AA 90 25,w1,hkl];exact hJ.app hlc
  |true=>
   simp[AA 90 24,hroom,AA 90 25,w1,hkl,Bn];exact hJ.app hlc
 ·have hk2:k=cl.length:=by omega
  subst hk2;rw[if_neg (by omega),AJ,od];exact hQ _ _ rfl
theorem ZV {c0:List (Int×Int)} (h:List Row) (x:Nat) (day:Int) (t:Th) (rs:List Rgt) (cl:List (Int×Int)) (hcl:cl.length≤2^20) (hl:Low h) (b:Int×Int→Bool)
  (q185:∀Z,Lows Z→FX 185 [.ref x 0,.v (.list (rs.map Rgt.V)),.v t.V] (h++Z) [.own 76 2 (cl.map Bn),.v (.int .i64 0)] (h++Z))
  (q186:∀c∈cl,∀Z,Lows Z→FX 186 [.ref x 0,.v (Pt 3 day t rs c0),.v (Bn c)] (h++ .cells ((GJ 3 day t rs c0).map .v)::Z) [.v (.bool (b c)),.v (.int .i64 0)] (h++ .cells ((GJ 3 day t rs c0).map .v)::Z)):
  FX 90 [.ref x 0,.v (Pt 3 day t rs c0)] h [.own 76 2 ((cl.filter b).map Bn),.own 3 1 [],.v (.int .i64 0)] h:=by
 refine Ak (D4 90) rfl (oN _) hl (by simp[D.lt]) ?_;have q1:=q185 [.cells ((GJ 3 day t rs c0).map .v)] (by
  intro row hrow n;rw[oS.1 hrow];exact NE n _ _ _ _ _)
 have hloop:=nY h x 3 day t rs cl hcl b q186;obtain⟨cs,vs,pa⟩:=t;simp only[Pt,GJ,Th.cs,Th.vs,Th.ps,AH]at*;simp[Th.V_eq,AH]at q1 hloop;simp only[Zw,Ai 90,AA 90 0,AA 90 1,AQ];simp;simp[AA 90 2,AA 90 11,AD];simp only[AA 90 12];simp;simp only[AA 90 13];simp;refine⟨_,_,q1,?_⟩;simp[AA 90 14,AA 90 16,AA 90 17];refine hloop _ ?_;intro e J he;simp[AA 90 26,he,AB,AW 90]
end
open Go.Proofs
theorem NI (l:List Rgt):l.Pairwise (λa b=>a.file≠b.file)→(Hi l).E=l.map G2:=by
 have key:∀n,∀l:List Rgt,l.length=n→l.Pairwise (λa b=>a.file≠b.file)→(Hi l).E=l.map G2:=by
  intro n;induction n with
  |zero=>intro l h _;rw[pK h];rfl
  |succ n ih=>
   intro l h hp;have hne:l≠[]:=λe=>by rw[e]at h;cases h
   obtain⟨r,hr⟩:∃r,l=l.dropLast++[r]:=⟨l.getLast hne,(List.dropLast_concat_getLast hne).symm⟩;rw[hr]at hp ⊢;have hl:l.dropLast.length=n:=by rw[List.length_dropLast];omega
   rw[qA]at hp;have hE:=ih l.dropLast hl hp.1;rw[LK];have hnone:(l.dropLast.map G2).findIdx? (λx=>x.1==r.file)=none:=by
    rw[FK,pu];intro q hq;have:=hp.2.2 q hq r (by simp);simpa using this
   unfold KM.set;rw[hE,hnone];simp[G2]
 exact key l.length l rfl
theorem Jh {l:List Rgt} (hp:l.Pairwise (λa b=>a.file≠b.file)) {r:Rgt} (hr:r∈l):l.find? (λq=>q.file==r.file)=some r:=by
 induction l with
 |nil=>cases hr
 |cons x l ih=>
  rw[List.pairwise_cons]at hp;rw[List.find?_cons];rcases oO.1 hr with rfl|hr
  ·simp
  ·have:=hp.1 r hr;rw[show (x.file==r.file)=false by simpa using this];exact ih hp.2 hr
theorem DI {l:List Rgt} (hp:l.Pairwise (λa b=>a.file≠b.file)) {r:Rgt} (hr:r∈l):IB l r.file=r:=by
 unfold IB;rw[Jh hp hr];rfl
def Ht (l:List Rgt):List Rgt:=(D6 (l.map Rgt.file)).map (IB l)
theorem Hc {l:List Rgt} (hp:l.Pairwise (λa b=>a.file≠b.file)):(Ht l).Perm l:=by
 unfold Ht;have h1:(D6 (l.map Rgt.file)).Perm (l.map Rgt.file):=rq _ _;have h2:=h1.map (IB l);rw[qF]at h2;have e:l.map (IB l ∘ Rgt.file)=l:=by
  conv=>rhs;rw[←List.map_id l]
  exact rl λr hr=>DI hp hr
 rw[e]at h2;exact h2
theorem Mw {l:List Rgt} (hp:l.Pairwise (λa b=>a.file≠b.file)):(Ht l).Pairwise (λa b=>a.file≠b.file):=
 (Hc hp).symm.pairwise hp (λh=>Ne.symm h)
open Go.Proofs
theorem O8 {I:Int→Int→Bool} {t:Th} {rs:List Rgt} {c:Int×Int} (h:c∈A5 I t rs):∃r∈rs,r.file=c.1∧0≤c.2∧c.2 <r.claims.length:=by
 unfold A5 at h;obtain⟨r,hr,h⟩:=pP.1 h;unfold Bt at h;obtain⟨i,hi,rfl⟩:=oP.1 h;have:=G7 (qC.1 hi).1;exact⟨r,hr,rfl,this.1,this.2⟩
theorem KL (I:Int→Int→Bool) (t:Th) (n:Nat):∀rs:List Rgt,(∀r∈rs,r.claims.length≤n)→(A5 I t rs).length≤n*rs.length
 |[],_=>by simp[A5]
 |y::l,hy=>by
  have h1:=KL I t n l λz hz=>hy z (by simp[hz]);have h2:=hy y (by simp);have h3:=Ez y;have h4:(Bt I t y).length≤(Bq y).length:=by
   unfold Bt;rw[oi];exact pG _ _
  unfold A5 at h1 ⊢;rw[oZ,oL,oj,rN];omega
section
theorem RE {own:List Rgt} (hp:own.Pairwise λa b=>a.file≠b.file):(D6 ((Hi own).E.map (·.1))).map (H5 (Hi own))=(Ht own).map λr=>V.agg [.int .i64 r.file,AH .u8 (Be r)]:=by
 have hE:=NI own hp;have e1:(Hi own).E.map (·.1)=own.map Rgt.file:=by rw[hE,qF];rfl
 rw[e1];unfold Ht;rw[qF];refine rl λk hk=>?_;have hk2:k∈own.map Rgt.file:=(rq _ _).mem_iff.1 hk;obtain⟨r,hr,rfl⟩:=oP.1 hk2;have hv:Ll (Hi own) r.file=Be r:=by
  unfold Ll;rw[hE,List.find?_map];have:(own.find? ((λx:Int×List Int=>x.1==r.file) ∘ G2))=some r:=Jh hp hr;rw[this];rfl
 show H5 (Hi own) r.file=_;rw[Function.comp_apply,DI hp hr];unfold H5;rw[hv]
def JN:List V:=Dc.map (AH .i64)
def Rq:List Bool:=Ch 6 zb
theorem Qu:Rq.length=4096:=by unfold Rq;rw[Ji,R6]
def G6 (own:List Rgt):List Row:=Dn JN Rq::D8 (.ref 0 0) 1 own
theorem UP (own:List Rgt):Low (G6 own):=by
 have hT:∀row∈[Dn JN Rq],row.low [Dn JN Rq].length=true:=by
  intro row hrow;rw[oS.1 hrow];simp only[Dn,Row.low];refine Et λd hd=>?_;rcases oO.1 hd with rfl|hd
  ·rfl
  ·obtain⟨b,_,rfl⟩:=oP.1 hd;rfl
 have q0:PN [Dn JN Rq] (.ref 0 0) own (G6 own):=⟨[],by simp[G6],by simp⟩;exact q0.low (by simp[D.lt]) hT
variable {J h:List Row}
theorem Xr {Z:List Row} (hZ:Low (h++Z)) (hJ:Lows J):Low (h++(Z++J)):=by
 rw[←oR];exact hZ.lows hJ
end
open Go.Proofs
def LT (kind pa day:Int) (t:Th) (rs:List Rgt) (cl:List (Int×Int)) (fs:List Int):List V:=
 [.int .i64 kind,.int .i64 0,.int .i64 pa,.int .i64 day,AH .i64 t.cs,.list (t.vs.map Val.V),.list (t.ps.map Th.V),.list (rs.map Rgt.V),.list (cl.map Bn),AH .i64 fs,.list [],.list [],.list []]
theorem iv (o:Own) (pa:Int) (h:List Row) (q:Nat) (ds:List D) (hq:h[q]?=some (.cells ds)) (hd:ds[2]?=some (.v (.int .i64 pa))) (hl:Low h):FX 184 [.v o.V,.ref q 0] h [.v (.bool (o.party==pa))] h:=by
 refine Ak (D4 184) rfl (oN _) hl (by simp[D.lt]) ?_;have hq':=λZ=>AV Z hq;have hlen:2 <ds.length:=(oM.1 hd).1;have hlen3:3≤ds.length:=hlen;have hd2:ds[2]'hlen= .v (.int .i64 pa):=(oM.1 hd).2;simp[Ai 184,awp,AA 184 0,AA 184 1,AW 184,AQ,Own.V,hq',hd2,hlen,hlen3]
end Go.Va
