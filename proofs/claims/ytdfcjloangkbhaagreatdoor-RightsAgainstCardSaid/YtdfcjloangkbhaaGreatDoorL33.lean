/- Laws, part 33. No condition. -/
import Derived.Test.YtdfcjloangkbhaaGreatDoorL10
import Derived.Test.YtdfcjloangkbhaaGreatDoorL11
import Derived.Test.YtdfcjloangkbhaaGreatDoorL12
set_option linter.all false
set_option maxRecDepth 100000
set_option maxHeartbeats 4000000
noncomputable section
namespace Go.Va
open Go.Proofs
def exC (k:Int):Clm:=⟨[k],.mk 0 0 [] []⟩
theorem noF_FP:FP 1 1 (.mk 0 0 [] []):=by
 refine⟨λg hg=>?_,by rw[F.size_eq];simp,by simp[F.depth,F.depths]⟩;rw[F.nodes_eq]at hg;have:g= .mk 0 0 [] []:=by simpa using hg
 subst this;refine⟨⟨by simp[F.op,i64],by simp[F.n,i64],by simp[F.ins],by simp[F.ins]⟩,by simp[formedF,F.op,F.n,F.ins,F.kids],by simp[okC,F.op]⟩
theorem exC_CP (k:Int):CP (exC k):=by
 have ht:(exC k).body.tops=[.mk 0 0 [] []]:=by
  show F.tops (.mk 0 0 [] [])=_;rw[F.tops_eq,if_neg (by decide)]
 refine⟨by simp[exC],noF_FP.mono (by decide) (by decide),by rw[ht];simp,?_⟩;rw[ht];intro p hp;rw[List.mem_singleton.1 hp];exact noF_FP.mono (by decide) (by decide)
structure CsQ (T:List Clm):Prop where
 n:T.length≤5
 cp:∀c∈T,CP c
 low:∀(k:Nat) (c:Clm),T[k]?=some c→∀r∈c.refs,0≤r∧r <(k:Int)
 z:clmsE T=0
 tiny:∀c∈T,c.tiny
 ex:∀(k:Nat) (c:Clm),3≤k→T[k]?=some c→∃r,r <3∧c=exC r∧∀(j:Nat) (d:Clm),3≤j→T[j]?=some d→d=c
theorem CsQ.meanX {T:List Clm} (h:CsQ T):∃g,MeanX T g:=by
 have hC:=meanC_ok T h.cp h.low;have hs:∀k,k≤2→sB k≤55:=λk hk=>by
  have:=sB_le hk;have e2:sB 2=55:=by decide
  omega
 have hok:∀c∈T,Clm.ok c:=λc hc=>(h.tiny c hc).ok;have hrf:∀c∈T,c.refs.length≤8:=λc hc=>by have:=(h.cp c hc).lr;omega
 have hsm:∀(k:Nat) (c:Clm),k≤2→T[k]?=some c→(meanC (meanL (T.take k)) c).ok∧formE (meanC (meanL (T.take k)) c)=0:=λk c hk hc=>by
  have h1:=(hC k c hc).ok (by have:=hs k hk;omega) (by omega);exact⟨h1.1,h1.2.1⟩
 have hat:∀(k:Nat) (f:F),(meanL T)[k]?=some f→∃c,T[k]?=some c∧f=meanC (meanL (T.take k)) c:=λk f hf=>by
  have hkl:k <T.length:=by rw[←meanL_len T];exact(List.getElem?_eq_some_iff.1 hf).1
  obtain⟨c,hck⟩:∃c,T[k]?=some c:=⟨_,List.getElem?_eq_getElem hkl⟩;refine⟨c,hck,?_⟩;have h2:(meanL T)[k]?=some (meanC (meanL (T.take k)) c):=by
   have e1:(meanL (T.take (k+1)))[k]?=some (meanC (meanL (T.take k)) c):=by
    rw[meanL_take T hck];have:(meanL (T.take k)).length=k:=by rw[meanL_len,List.length_take];omega
    rw[List.getElem?_append_right (by omega),this,Nat.sub_self];rfl
   rw[meanL_pre T (k+1) (by omega),List.getElem?_take,if_pos (by omega)]at e1;exact e1
  rw[hf]at h2;exact Option.some.inj h2
 have hn:=h.n;by_cases h3:T.length≤3
 ·refine⟨T.length,by omega,hok,hrf,h.low,Nat.le_refl _,?_,λk c hk hc=>by have:=(List.getElem?_eq_some_iff.1 hc).1;omega⟩;rw[List.take_length];intro f hf;obtain⟨k,hk⟩:=List.mem_iff_getElem?.1 hf;obtain⟨c,hc,rfl⟩:=hat k f hk;exact hsm k c (by have:=(List.getElem?_eq_some_iff.1 hc).1;omega) hc
 ·obtain⟨c3,hc3⟩:∃c,T[3]?=some c:=⟨_,List.getElem?_eq_getElem (by omega)⟩;obtain⟨r,hr,he,hall⟩:=h.ex 3 c3 (Nat.le_refl _) hc3;have hr0:0≤r:=(h.low 3 c3 hc3 r (by rw[he];simp[exC])).1;have hm:∀(k:Nat) (c:Clm),3≤k→T[k]?=some c→meanC (meanL (T.take k)) c=meanC (meanL (T.take 3)) c3:=λk c hk hc=>by
   rw[hall k c hk hc];exact meanC_pre hk (by have:=(List.getElem?_eq_some_iff.1 hc).1;omega) λx hx=>by
    rw[he]at hx;simp[exC]at hx;subst hx;omega
  have hf3:=hC 3 c3 hc3;have hsz:(meanC (meanL (T.take 3)) c3).size≤60:=by
   obtain⟨f,hf⟩:∃f,(meanL (T.take 3))[r.toNat]?=some f:=⟨_,List.getElem?_eq_getElem (by rw[meanL_len,List.length_take];omega)⟩;have hf':(meanL T)[r.toNat]?=some f:=by
    rw[meanL_pre T 3 (by omega),List.getElem?_take_of_lt (by omega)]at hf;exact hf
   obtain⟨c,hc,hfe⟩:=hat _ f hf';have h1:=(hC _ c hc).sz;rw[←hfe]at h1;have h2:=hs r.toNat (by omega);rw[he];unfold meanC exC;rw[if_neg (by simp),F.size_eq];simp only[List.map_cons,List.map_nil,List.sum_cons,List.sum_nil,F.size_eq,hf,Option.getD_some];omega
  have hokf:(meanC (meanL (T.take 3)) c3).ok:=⟨λg hg=>(hf3.nd g hg).1,by omega⟩;have hE:formE (meanC (meanL (T.take 3)) c3)=0∨formE (meanC (meanL (T.take 3)) c3)=4:=by
   unfold formE;split
   ·exact .inr rfl
   ·rw[if_pos (List.all_eq_true.2 λg hg=>(hf3.nd g hg).2.1)];exact .inl rfl
  rcases hE with hE|hE
  ·refine⟨T.length,by omega,hok,hrf,h.low,Nat.le_refl _,?_,λk c hk hc=>by have:=(List.getElem?_eq_some_iff.1 hc).1;omega⟩;rw[List.take_length];intro f hf;obtain⟨k,hk⟩:=List.mem_iff_getElem?.1 hf;obtain⟨c,hc,rfl⟩:=hat k f hk;by_cases hk3:k≤2
   ·exact hsm k c hk3 hc
   ·rw[hm k c (by omega) hc];exact⟨hokf,hE⟩
  ·refine⟨3,by omega,hok,hrf,h.low,by omega,?_,?_⟩
   ·intro f hf;rw[meanL_pre T 3 (by omega)]at hf;obtain⟨k,hk⟩:=List.mem_iff_getElem?.1 hf;rw[List.getElem?_take]at hk;split at hk
    ·obtain⟨c,hc,rfl⟩:=hat k f hk;exact hsm k c (by omega) hc
    ·cases hk
   ·intro k c hk hc;have hce:=hall k c hk hc;refine⟨by rw[hce,he];simp[exC],λx hx=>?_,?_⟩
    ·rw[hce,he]at hx;simp[exC]at hx;omega
    ·rw[hce];exact⟨hokf,hE⟩
theorem CsQ.fair {r:Rgt} (h:CsQ r.claims) (hb:r.bad.length≤2^40):r.fair:=⟨hb,by have:=h.n;omega,λc hc=>(h.tiny c hc).ok,λ_=>h.meanX⟩
theorem CsQ.altC {T:List Clm} (h:CsQ T) (k:Nat) (c:Clm) (hc:T[k]?=some c):(altC (altL (T.take k)) c).length≤32∧∀f∈altC (altL (T.take k)) c,AP 15 f:=by
 have hk:=(List.getElem?_eq_some_iff.1 hc).1;have hn:=h.n;have hA:=altC_ok T h.cp h.low;have e2:lB 2=32:=by decide
 obtain⟨h1,h2⟩:=hA k c hc;refine⟨?_,λf hf=>(h2 f hf).mono (by omega)⟩;by_cases hk3:k≤2
 ·have:=lB_le hk3;omega
 ·obtain⟨r,hr,he,_⟩:=h.ex k c (by omega) hc;have hr0:0≤r:=(h.low k c hc r (by rw[he];simp[exC])).1;obtain⟨d,hd⟩:∃d,T[r.toNat]?=some d:=⟨_,List.getElem?_eq_getElem (by omega)⟩;have h3:=altL_at T hd k (by omega) (by omega);have h4:=(hA _ d hd).1;have h5:lB r.toNat≤lB 2:=lB_le (by omega);have ht:(exC r).body.tops=[.mk 0 0 [] []]:=by
   show F.tops (.mk 0 0 [] [])=_;rw[F.tops_eq,if_neg (by decide)]
  rw[he];unfold Go.Va.altC;rw[if_neg (by simp[exC]),ht];show (List.flatMap _ [r]).length≤32;simp only[List.flatMap_cons,List.flatMap_nil,List.append_nil,h3,Option.getD_some,List.map_cons,List.map_nil];have h6:=flat_len_le (λa=>[Go.Va.mkA a (.mk 0 0 [] [])]) 1 (Go.Va.altC (altL (T.take r.toNat)) d) (λa _=>by simp);omega
theorem CsQ.altOK {T:List Clm} (h:CsQ T):AltOK T:=by
 refine⟨by have:=h.n;omega,λc hc=>?_,h.low,?_,?_,?_⟩
 ·have hcp:=h.cp c hc;exact⟨(hcp.body.ok (by decide) (by decide)).1,by have:=hcp.nt;omega,by have:=hcp.lr;omega⟩
 ·intro k c hk r hr a ha b hb;have h0:c.refs≠[]:=λe=>by rw[e]at hr;cases hr
  have hmem:mkA a b∈Go.Va.altC (altL (T.take k)) c:=by
   unfold Go.Va.altC;rw[if_neg h0];exact List.mem_flatMap.2 ⟨r,hr,List.mem_flatMap.2 ⟨a,ha,List.mem_map.2 ⟨b,hb,rfl⟩⟩⟩
  have h2:=(h.altC k c hk).2 _ hmem;have:=h2.all.ok (by omega) (by omega);exact⟨this.1,this.2.1⟩
 ·intro k c hk j hj;by_cases h0:c.refs=[]
  ·simp[h0]
  ·have h1:=(h.altC k c hk).1;have e:Go.Va.altC (altL (T.take k)) c=c.refs.flatMap λr=>(((altL (T.take k))[r.toNat]?).getD []).flatMap λa=>c.body.tops.map λb=>mkA a b:=by
    unfold Go.Va.altC;rw[if_neg h0]
   rw[e]at h1;have hle:((c.refs.take j).flatMap λr=>(((altL (T.take k))[r.toNat]?).getD []).flatMap λa=>c.body.tops.map (mkA a)).length≤(c.refs.flatMap λr=>(((altL (T.take k))[r.toNat]?).getD []).flatMap λa=>c.body.tops.map λb=>mkA a b).length:=by
    conv=>rhs;rw[←List.take_append_drop j c.refs,List.flatMap_append,List.length_append]
    exact Nat.le_add_right _ _
   omega
 ·intro k c hk r hr;have hrl:=h.low k c hk r hr;have hkl:=(List.getElem?_eq_some_iff.1 hk).1;obtain⟨c',hc'⟩:∃c',T[r.toNat]?=some c':=⟨_,List.getElem?_eq_getElem (by omega)⟩;have h2:=altL_at T hc' k (by omega) (by omega);rw[h2,Option.getD_some];have h1:=(h.altC r.toNat c' hc').1;omega
theorem CsQ.alts {T:List Clm} (h:CsQ T) (k:Nat) (hk:k <T.length):FsOK 6 (altAt T k):=by
 obtain⟨c,hck⟩:∃c,T[k]?=some c:=⟨_,List.getElem?_eq_getElem hk⟩;obtain⟨h1,h2⟩:=h.altC k c hck;have h3:=altL_at T hck T.length hk (Nat.le_refl _);rw[List.take_length]at h3;have e:altAt T k=Go.Va.altC (altL (T.take k)) c:=by unfold altAt;rw[Int.toNat_natCast,h3];rfl
 rw[e];exact⟨by omega,λf hf=>(h2 f hf).all.ok (by omega) (by omega)⟩
theorem CsQ.of {T:List Clm} (h:CsP T):CsQ T:=⟨by have:=h.n;omega,h.cp,h.low,h.z,h.tiny,λk c hk hc=>by have:=(List.getElem?_eq_some_iff.1 hc).1;have:=h.n;omega⟩
theorem spoilF_claims (r:Rgt) (h b:Int):(spoilF r h b).claims=r.claims∨(spoilF r h b).claims=r.claims++[exC b]:=by
 unfold spoilF;simp only
 repeat' split
 all_goals first
  |exact .inl rfl
  |exact .inr rfl
theorem exC_tiny {k:Int} (h:i64 k):(exC k).tiny:=⟨by simpa[exC]using h,by simp[exC],(tiny_node (m:=0) (by simp[i64]) (by simp)).mono (by simp)⟩
theorem CsQ.ext {G E:List Clm} (h:CsP G) {b b2:Int} (hb:i64 b) (hb2:i64 b2) (h2:0≤b→b <3→b2=b) (hE:E=[]∨E=[exC b]∨E=[exC b2]∨E=[exC b,exC b2]) (hz:clmsE (G++E)=0):CsQ (G++E):=by
 have hGn:=h.n;have hEm:∀c∈E,c=exC b∨c=exC b2:=λc hc=>by
  rcases hE with rfl|rfl|rfl|rfl<;>simp at hc
  ·exact .inl hc
  ·exact .inr hc
  ·exact hc
 have hlow:∀(k:Nat) (c:Clm),(G++E)[k]?=some c→∀r∈c.refs,0≤r∧r <(k:Int):=λk c hk=>refs_low (clmsE_at hz hk).1;have hkE:∀(k:Nat) (c:Clm),3≤k→(G++E)[k]?=some c→E[k-G.length]?=some c:=λk c hk hc=>by
  rw[List.getElem?_append_right (by omega)]at hc;exact hc
 have hfst:∀c,E[0]?=some c→∀r∈c.refs,0≤r∧r <3:=λc hc r hr=>by
  have:=hlow G.length c (by rw[List.getElem?_append_right (Nat.le_refl _),Nat.sub_self];exact hc) r hr;omega
 refine⟨?_,λc hc=>?_,hlow,hz,λc hc=>?_,λk c hk hc=>?_⟩
 ·rcases hE with rfl|rfl|rfl|rfl<;>simp<;>omega
 ·rcases List.mem_append.1 hc with hc|hc
  ·exact h.cp c hc
  ·rcases hEm c hc with rfl|rfl<;>exact exC_CP _
 ·rcases List.mem_append.1 hc with hc|hc
  ·exact h.tiny c hc
  ·rcases hEm c hc with rfl|rfl
   ·exact exC_tiny hb
   ·exact exC_tiny hb2
 ·have hcE:=List.mem_of_getElem? (hkE k c hk hc);have hone:∃r,r <3∧∀d∈E,d=exC r:=by
   rcases hE with rfl|rfl|rfl|rfl
   ·cases hcE
   ·exact⟨b,(hfst _ rfl b (by simp[exC])).2,by simp⟩
   ·exact⟨b2,(hfst _ rfl b2 (by simp[exC])).2,by simp⟩
   ·have hb3:=hfst _ rfl b (by simp[exC]);refine⟨b,hb3.2,?_⟩;rw[h2 hb3.1 hb3.2];simp
  obtain⟨r,hr,hall⟩:=hone;exact⟨r,hr,hall c hcE,λj d hj hd=>by rw[hall d (List.mem_of_getElem? (hkE j d hj hd)),hall c hcE]⟩
theorem clmsE_pre {G E:List Clm} (h:clmsE (G++E)=0):clmsE G=0:=by
 have hl:¬(G++E).length>32:=by
  intro h2;unfold clmsE at h;rw[if_pos h2]at h;cases h
 have hG:G.length≤(G++E).length:=by simp
 unfold clmsE at h ⊢;rw[if_neg hl]at h;rw[if_neg (by omega)];refine firstE_zero _ _ λj h1 h2=>?_;have h3:=firstE_all _ _ h j (by omega) (by omega);unfold clmAt at h3 ⊢
 rwa [List.getElem?_append_left (by omega)]at h3
theorem some_fair (l:List Int):(someF l).fair where
 bad:=by have:=(someF_tiny l).lb;omega
 len:=by have:=(someF_tiny l).lc;omega
 ok:=λc hc=>((someF_tiny l).claims c hc).ok
 mean:=λhz=>(CsQ.of (claimsF_CsP l hz)).meanX
theorem spoil_fair (l:List Int) (h b:Int) (hb:i64 b):(spoilF (someF l) h b).fair:=by
 have ht:=spoilF_tiny (someF_tiny l) (by decide) h b hb;refine⟨by have:=ht.lb;omega,by have:=ht.lc;omega,λc hc=>(ht.claims c hc).ok,λhz=>?_⟩;rcases spoilF_claims (someF l) h b with e|e
 ·rw[e]at hz ⊢;exact(CsQ.of (claimsF_CsP l hz)).meanX
 ·rw[e]at hz ⊢;exact(CsQ.ext (claimsF_CsP l (clmsE_pre hz)) hb hb (λ_ _=>rfl) (.inr (.inl rfl)) hz).meanX
theorem any_take_succ {α:Type} (f:α→Bool) {l:List α} {k:Nat} {x:α} (h:l[k]?=some x):(l.take (k+1)).any f=((l.take k).any f||f x):=by
 rw[List.take_add_one,h,List.any_append];simp
theorem hld0 {nc:Int} {al:List F} (h:FsOK nc al) {f:F} (hf:f∈al) {t:Th} (ht:thE t=0) (hk:t.kinds nc=true):hldE nc f t=0:=by
 obtain⟨_,h2,h3⟩:=h.2 f hf;unfold hldE;rw[h2,ht,h3,hk];rfl
theorem named_alt {t:Th} {r:Rgt} (hC:clmsE r.claims=0→CsP r.claims) (h0:axE 6 t [r]=0) {x:Int×Int} (hx:x∈againstL (isTx 6 bs6) t [r]):
  ∃m:Nat,x=(r.file,(m:Int))∧m <r.claims.length∧CsP r.claims∧thE t=0∧((altAt r.claims m).any λf=>decide (hldE 6 f t=0)&&f.hold (isTx 6 bs6) t)=true:=by
 have hx:x∈againstR (isTx 6 bs6) t r:=by simpa[againstL]using hx
 unfold againstR at hx;obtain⟨i,hi,rfl⟩:=List.mem_map.1 hx;obtain⟨hi,hh⟩:=List.mem_filter.1 hi;have hlt:=liveR_lt hi;obtain⟨m,rfl⟩:∃m:Nat,i=m:=⟨i.toNat,by omega⟩;unfold axE at h0;have hte:thE t=0:=by
  by_cases h:thE t=0
  ·exact h
  ·rw[if_pos h]at h0;exact absurd h0 h
 rw[if_neg (by simpa using hte)]at h0;have hz:∀e∈errR 6 t r,e=0:=by
  intro e he;unfold firstN at h0;cases hf:([r].flatMap (errR 6 t)).find? λe=>decide (e≠0)with
  |none=>
   have:=List.find?_eq_none.1 hf e (by simpa using he);simpa using this
  |some y=>
   rw[hf]at h0;have h1:y≠0:=by simpa using List.find?_some hf
   exact absurd h0 h1
 have hE:hE 6 r m t=0:=hz _ (List.mem_map.2 ⟨m,hi,rfl⟩);have hcz:clmsE r.claims=0:=by
  unfold Go.Va.hE at hE;split at hE
  ·assumption
  ·exact hE
 have hP:=hC hcz;have hld:hldE 6 (meanAt r.claims m) t=0:=by
  unfold Go.Va.hE at hE
  rwa [if_pos hcz]at hE
 have hk:t.kinds 6=true:=by
  unfold hldE at hld;split at hld
  ·rename_i h;exact absurd hld h
  ·split at hld
   ·rename_i h;exact absurd hte h
   ·split at hld
    ·rename_i h;simp only[Bool.and_eq_true]at h;exact h.2
    ·cases hld
 refine⟨m,rfl,by omega,hP,hte,?_⟩;have h1:=mean_alt (isTx 6 bs6) t r.claims hP.low (i:=m) (by omega) hh;obtain⟨f,hf,hfh⟩:=List.any_eq_true.1 h1;have hok:=(CsQ.of hP).alts m (by omega);exact List.any_eq_true.2 ⟨f,hf,by rw[hld0 hok hf hte hk,hfh];rfl⟩
def gA3 (t:Th) (f:F):Bool:=(decide (hldE 6 f t=0)&&f.hold (isTx 6 bs6) t)&&decide (hldE 6 f t=0)
section
variable (H:List Row) (hl:Low H) (hx:H[0]?=some (taxR ps6 bs6)) (t:Th) (ht:t.ok) (t18:Nat) (h18:H[t18]?=some (.cells t.cells))
include hl hx ht h18
theorem l3d (al:List F) (hal:al.length≤64∧∀f∈al,f.ok) (d15 d26:D) (i:Int) (fe:Int) (Q:AExit→St→Prop)
  (hQ:∀e,find e 13= .ref 0 0→find e 15=d15→find e 18= .ref t18 0→find e 26=d26→find e 28= .v (.int .i64 i)→find e 30= .v (.int .i64 fe)→find e 31= .v (.bool (al.any (gA3 t)))→Q (.exit 8) ⟨e,H⟩):
  awp Tryz.prog GLx (.loop (lG 3 4)) Q ⟨[(13,.ref 0 0),(15,d15),(18,.ref t18 0),(26,d26),(28,.v (.int .i64 i)),(29,.v (.list (al.map F.V))),(30,.v (.int .i64 fe)),(31,.v (.bool false)),(32,.v (.int .i64 (0:Nat)))],H⟩:=by
 refine awp_loop_nat0 al.length (λj=>⟨[(13,.ref 0 0),(15,d15),(18,.ref t18 0),(26,d26),(28,.v (.int .i64 i)),(29,.v (.list (al.map F.V))),(30,.v (.int .i64 fe)),(31,.v (.bool ((al.take j).any (gA3 t)))),(32,.v (.int .i64 j))],H⟩) (by simp) ?_;intro j hj;simp only[Zgl 3 4,awp_seq,awp_reg,awp_block,awp_cond,Zge 3 34];simp;by_cases hjl:j <al.length
 ·obtain⟨a,ha⟩:∃a,al[j]?=some a:=⟨_,List.getElem?_eq_getElem hjl⟩;have ham:=List.mem_of_getElem? ha;have hlen:=hal.1;have w1:IntKind.i64.wrap ((j:Int)+1)=j+1:=wrap_i64 (by omega) (by omega);have hat:=any_take_succ (gA3 t) ha;rw[hat];have q1:=p25 (ps:=ps6) (bs:=bs6) (by decide) bs6_len a (hal.2 a ham) t ht H 0 hx hl;have hg:gA3 t a=((decide (hldE ps6.length a t=0)&&a.hold (isTx ps6.length bs6) t)&&decide (hldE ps6.length a t=0)):=rfl;rw[hg];generalize (al.take j).any (gA3 t)=T at*;generalize a.hold (isTx ps6.length bs6) t=B at*;generalize hldE ps6.length a t=E at*;obtain⟨fo,fn,fi,fk⟩:=a;obtain⟨cs,vs,pa⟩:=t;simp only[F.V_eq,Th.cells,Th.cs,Th.vs,Th.ps,Th.V_eq,nums]at*
  try simp at q1
  simp[hjl,awp_skip];simp only[awp_regD,Zge 3 36];simp[ha,F.V_eq,h18];refine⟨_,_,q1,?_⟩;simp[Zge 3 37];cases T<;>cases B<;>by_cases hE:E=0<;>simp[hE,Zge 3 35,w1]
 ·have hj2:j=al.length:=by omega
  subst hj2;rw[List.take_length];simp[awp_exit];exact hQ _ rfl rfl rfl rfl rfl rfl rfl
theorem l3c (rs:List Rgt) (r:Rgt) (hr:rs[0]?=some r) (hC:clmsE r.claims=0→CsP r.claims) (h0:axE 6 t [r]=0) (hn:(againstL (isTx 6 bs6) t [r]).length≤2^30) (Q:AExit→St→Prop)
  (hQ:∀e,find e 13= .ref 0 0→find e 15= .own 39 8 (rs.map Rgt.V)→find e 18= .ref t18 0→Q (.exit 6) ⟨e,H⟩):
  awp Tryz.prog GLx (.loop (lG 3 3)) Q ⟨[(13,.ref 0 0),(15,.own 39 8 (rs.map Rgt.V)),(18,.ref t18 0),(26,.v (.list ((againstL (isTx 6 bs6) t [r]).map clmV))),(28,.v (.int .i64 (0:Nat)))],H⟩:=by
 obtain⟨A,hA⟩:∃A,againstL (isTx 6 bs6) t [r]=A:=⟨_,rfl⟩;have hnm:=λx=>named_alt (x:=x) hC h0;rw[hA]at hnm hn ⊢;refine awp_loop_nat0 A.length (λi=>⟨[(13,.ref 0 0),(15,.own 39 8 (rs.map Rgt.V)),(18,.ref t18 0),(26,.v (.list (A.map clmV))),(28,.v (.int .i64 i))],H⟩) (by simp) ?_;intro i hi;simp only[Zgl 3 3,awp_seq,awp_reg,awp_block,awp_cond,Zge 3 29];simp;by_cases hil:i <A.length
 ·obtain⟨x,hxi⟩:∃x,A[i]?=some x:=⟨_,List.getElem?_eq_getElem hil⟩;obtain⟨m,rfl,hm,hP,hte,hany⟩:=hnm x (List.mem_of_getElem? hxi);have w1:IntKind.i64.wrap ((i:Int)+1)=i+1:=wrap_i64 (by omega) (by omega);have q:=p24c hP m hm;have hok:=(CsQ.of hP).alts m hm;have hlp:=λQ=>l3d H hl hx t ht t18 h18 (altAt r.claims m) ⟨hok.1,λf hf=>(hok.2 f hf).1⟩ (.own 39 8 (rs.map Rgt.V)) (.v (.list (A.map clmV))) i 0 Q;have hg:(altAt r.claims m).any (gA3 t)=true:=by
   obtain⟨f,hf,hb⟩:=List.any_eq_true.1 hany;refine List.any_eq_true.2 ⟨f,hf,?_⟩;simp only[Bool.and_eq_true]at hb;simp only[gA3,hb.1,hb.2,Bool.and_self]
  rw[hg]at hlp;generalize altAt r.claims m=al at*;simp[hil,awp_skip];simp only[awp_regD,Zge 3 31];simp[hr,Rgt.V,Rgt.cs,hxi,clmV];refine⟨_,_,⟨rfl,rfl⟩,_,q,?_⟩;simp[Zge 3 32,Zge 3 33];simp[Rgt.V,Rgt.cs,clmV]at hlp;refine hlp _ ?_;intro e f13 f15 f18 f26 f28 f30 f31;simp[Zge 3 38,f13,f15,f18,f26,f28,f30,f31,awp_skip,Zge 3 30,w1]
 ·have hi2:i=A.length:=by omega
  subst hi2;simp[awp_exit];exact hQ _ rfl rfl rfl
end
theorem p13n (L:V) (t:Th):PSp Tryz.prog GLx 13 [.nilp,L,t.V] [.list [],.int .i64 1]:=by
 refine psp_of_awp (Zkk 13) rfl ?_;obtain⟨tc,tv,tp⟩:=t;simp only[Zga 13,awp_seq,awp_reg,awp_cond,Zge 13 0,entry,Th.V_eq,nums];simp;simp[Zge 13 1,Zge 13 2,awp_ret,Zgr 13]
section
variable (a b c:Rgt)
theorem l3a (ha:a.ok∧a.fair) (hb:b.ok∧b.fair) (hc:c.ok∧c.fair) (v2 v3 v4 v5:V) (H:List Row) (Q:AExit→St→Prop)
  (hQ:∀J,Lows J→Q (.exit 0) ⟨[(2,.v v2),(3,.v v3),(4,.v v4),(5,.v v5),(13,.ref 0 0),(14,.own 30 8 [a.V,b.V,c.V]),(15,.own 39 8 [a.V,b.V,c.V]),(16,.v (.int .i64 (3:Nat))),(51,.v (.bool false))],H++J⟩):
  awp Tryz.prog GLx (.loop (lG 3 0)) Q ⟨[(2,.v v2),(3,.v v3),(4,.v v4),(5,.v v5),(13,.ref 0 0),(14,.own 30 8 [a.V,b.V,c.V]),(15,.own 39 8 []),(16,.v (.int .i64 (0:Nat)))],H⟩:=by
 have hget:∀k <3,∃r:Rgt,[a.V,b.V,c.V][k]?=some r.V∧r.ok∧r.fair:=by
  intro k h3;have:k=0∨k=1∨k=2:=by omega
  rcases this with rfl|rfl|rfl
  ·exact⟨a,rfl,ha⟩
  ·exact⟨b,rfl,hb⟩
  ·exact⟨c,rfl,hc⟩
 have hL3:[a.V,b.V,c.V].length=3:=rfl;generalize [a.V,b.V,c.V]=L at*;refine awp_loop_I 3 (λk s=>∃J,Lows J∧s=⟨[(2,.v v2),(3,.v v3),(4,.v v4),(5,.v v5),(13,.ref 0 0),(14,.own 30 8 L),(15,.own 39 8 (L.take k)),(16,.v (.int .i64 k))],H++J⟩) ⟨[],Lows.nil,by simp⟩ ?_;rintro k s hk ⟨J,hJ,rfl⟩;simp only[Zgl 3 0,awp_seq,awp_reg,awp_block,awp_cond,Zge 3 7];simp;by_cases h3:k <3
 ·obtain⟨r,hr,hrf⟩:=hget k h3;have w1:IntKind.i64.wrap ((k:Int)+1)=k+1:=wrap_i64 (by omega) (by omega);have ht:L.take (k+1)=L.take k++[r.V]:=by rw[List.take_add_one,hr];rfl
  have hlen:(L.take k).length=k:=by rw[List.length_take];omega
  have hroom:roomy (k+1) 144=true:=by simp[roomy];omega
  have q1:=(p7 r hrf.1).fsp;have q2:=p273 r (by have:=hrf.2.len;omega) hrf.2.bad;have q3:=p162 r (by have:=hrf.2.len;omega) hrf.2.bad;have q4:=p82g (liveR r) (liveR r) (by have:=liveR_len r;have:=hrf.2.len;omega);have hlw:∀n,Row.low n (.cells (r.cs.map .v))=true:=λn=>by simp only[Row.low];exact low_V _
  rw[ht];generalize liveR r=lv at*;generalize L.take k=tk at*;have hkI:(k:Int) <3:=by omega
  simp only[Rgt.V,Rgt.cs,nums]at*;simp at q1 q2 q3 q4 hlw;simp[hkI,awp_skip];simp only[Zge 3 9];simp[hr];refine⟨_,_,q1 _,?_⟩;simp[putL];simp only[Zge 3 10];simp[hlen,hroom];simp only[awp_regD,Zge 3 11];simp;refine⟨_,_,⟨rfl,rfl⟩,_,q2,?_⟩;simp[hr];refine⟨_,_,⟨rfl,rfl⟩,_,q3,?_⟩;simp;refine⟨_,_,⟨rfl,rfl⟩,_,q4,?_⟩;simp[awp_skip,Zge 3 8,w1];exact⟨h3,hJ.app hlw⟩
 ·have hk3:k=3:=by omega
  subst hk3;simp[awp_exit];have ht:L.take 3=L:=List.take_of_length_le (by omega);rw[ht];simpa using hQ J hJ
theorem l3b (H:List Row) (hl:Low H) (hx:H[0]?=some (taxR ps6 bs6)) (ha:a.fair) (hb:b.fair) (hc:c.fair) (d18:D) (ths:List Th) (i:Nat) (t:Th) (hi:ths[i]?=some t) (ht:t.ok) (hs:t.size≤2^40) (Q:AExit→St→Prop)
  (hQ:∀e,find e 13= .ref 0 0→find e 14= .own 30 8 [a.V,b.V,c.V]→find e 15= .own 39 8 [a.V,b.V,c.V]→find e 18=d18→find e 19= .own 47 3 (ths.map Th.V)→find e 20= .v (.int .i64 i)→Q (.exit 4) ⟨e,H⟩):
  awp Tryz.prog GLx (.loop (lG 3 2)) Q ⟨[(13,.ref 0 0),(14,.own 30 8 [a.V,b.V,c.V]),(15,.own 39 8 [a.V,b.V,c.V]),(18,d18),(19,.own 47 3 (ths.map Th.V)),(20,.v (.int .i64 i)),(21,.v (.int .i64 1))],H⟩:=by
 refine awp_loop_nat0 3 (λk=>⟨[(13,.ref 0 0),(14,.own 30 8 [a.V,b.V,c.V]),(15,.own 39 8 [a.V,b.V,c.V]),(18,d18),(19,.own 47 3 (ths.map Th.V)),(20,.v (.int .i64 i)),(21,.v (.int .i64 ((k:Int)+1)))],H⟩) (by simp) ?_;intro k hk;simp only[Zgl 3 2,awp_seq,awp_reg,awp_block,awp_cond,Zge 3 19];simp;by_cases h3:k <3
 ·have hkI:(k:Int)+1≤3:=by omega
  have w1:IntKind.i64.wrap ((k:Int)+1+1)=k+1+1:=wrap_i64 (by omega) (by omega);have hk0:(0:Int)≤(k:Int)+1:=by omega
  have hkl:k+1≤3:=by omega
  obtain⟨rs,hrs,hrf,hrl⟩:∃rs:List Rgt,[a.V,b.V,c.V].take (k+1)=rs.map Rgt.V∧(∀r∈rs,r.fair)∧rs.length≤3:=by
   have:k=0∨k=1∨k=2:=by omega
   rcases this with rfl|rfl|rfl
   ·exact⟨[a],rfl,by simpa using ha,by simp⟩
   ·exact⟨[a,b],rfl,by simp[ha,hb],by simp⟩
   ·exact⟨[a,b,c],rfl,by simp[ha,hb,hc],by simp⟩
  have q1:=p185x (ps:=ps6) (bs:=bs6) (by decide) bs6_len H 0 hx hl t ht rs hrf (by omega);have q2:PSp Tryz.prog GLx 14 [.list ps6,.list (rs.map Rgt.V),t.V] [.list ((axL ps6.length (isTx ps6.length bs6) t rs).map clmV),.int .i64 (axE ps6.length t rs)]:=
   p73x (I:=isTx ps6.length bs6) (pa:=ps6) (by decide) (λx y h1 h2 h3 h4=>p311 x y h1 h2 h3 h4) t ht hs rs (by omega) hrf
  have q0:=p16;have e16:parentsV= .list ps6:=rfl;rw[e16]at q0;have hAn:(axL ps6.length (isTx ps6.length bs6) t rs).length≤96:=by
   have h1:=againstL_len (isTx ps6.length bs6) t rs λr hr=>(hrf r hr).len;unfold axL;split
   ·omega
   ·simp
  have q3:=p17 (axL ps6.length (isTx ps6.length bs6) t rs) (by omega);have q4:=p80g (axL ps6.length (isTx ps6.length bs6) t rs) (axL ps6.length (isTx ps6.length bs6) t rs) (by omega);generalize axL ps6.length (isTx ps6.length bs6) t rs=A at*;generalize axE ps6.length t rs=E at*;generalize ps6=PS at*;have hL3:[a.V,b.V,c.V].length=3:=rfl;have hh:headOK 8 [a.V,b.V,c.V]=true:=by simp[headOK,Rgt.V,Rgt.cs,V.cells]
  have hkn:((k:Int)+1).toNat=k+1:=by omega
  generalize [a.V,b.V,c.V]=L at*;obtain⟨tc,tv,tp⟩:=t;simp only[Th.V_eq,nums]at*;simp at q0 q1 q2 q3 q4;simp[hkI,awp_skip];simp only[awp_regD,Zge 3 21];simp[hi,Th.V_eq,nums,hL3,hh,hkn,hrs,hk0,hkl];refine⟨_,_,q1,?_⟩;simp;simp only[awp_regD,Zge 3 22];simp;refine⟨_,_,⟨rfl,rfl⟩,_,q0,?_⟩;simp[hi,Th.V_eq,nums,hL3,hh,hkn,hrs,hk0,hkl];refine⟨_,_,⟨rfl,rfl⟩,_,q2,?_⟩;simp;simp only[Zge 3 23];simp;refine⟨_,_,q3.fsp _,?_⟩;simp;refine⟨_,_,q4.fsp _,?_⟩;simp[awp_skip,Zge 3 20,w1];exact h3
 ·have hk3:k=3:=by omega
  subst hk3;simp[awp_exit];exact hQ _ rfl rfl rfl rfl rfl rfl
theorem l3o (H:List Row) (hl:Low H) (hx:H[0]?=some (taxR ps6 bs6)) (ha:a.fair) (hb:b.fair) (hc:c.fair) (d18:D) (ths:List Th) (h3:ths.length=3) (ht:∀t∈ths,t.ok∧t.size≤2^40) (Q:AExit→St→Prop)
  (hQ:∀e,find e 13= .ref 0 0→find e 15= .own 39 8 [a.V,b.V,c.V]→find e 18=d18→Q (.exit 2) ⟨e,H⟩):
  awp Tryz.prog GLx (.loop (lG 3 1)) Q ⟨[(13,.ref 0 0),(14,.own 30 8 [a.V,b.V,c.V]),(15,.own 39 8 [a.V,b.V,c.V]),(18,d18),(19,.own 47 3 (ths.map Th.V)),(20,.v (.int .i64 (0:Nat)))],H⟩:=by
 refine awp_loop_nat0 3 (λi=>⟨[(13,.ref 0 0),(14,.own 30 8 [a.V,b.V,c.V]),(15,.own 39 8 [a.V,b.V,c.V]),(18,d18),(19,.own 47 3 (ths.map Th.V)),(20,.v (.int .i64 i))],H⟩) (by simp) ?_;intro i hi;simp only[Zgl 3 1,awp_seq,awp_reg,awp_block,awp_cond,Zge 3 16];simp;by_cases hlt:i <3
 ·obtain⟨t,hti⟩:∃t,ths[i]?=some t:=⟨_,List.getElem?_eq_getElem (by omega)⟩;have hiI:(i:Int) <3:=by omega
  have w1:IntKind.i64.wrap ((i:Int)+1)=i+1:=wrap_i64 (by omega) (by omega);have htt:=ht t (List.mem_of_getElem? hti);have hlp:=λQ=>l3b a b c H hl hx ha hb hc d18 ths i t hti htt.1 htt.2 Q;generalize [a.V,b.V,c.V]=L at*;simp[hiI,awp_skip,Zge 3 18];refine hlp _ ?_;intro e f13 f14 f15 f18 f19 f20;simp[f13,f14,f15,f18,f19,f20,Zge 3 17,w1];exact hlt
 ·have hi3:i=3:=by omega
  subst hi3;simp[awp_exit];exact hQ _ rfl rfl rfl
end
theorem wb_ok {n:Nat} (hn:n≤2^20) {t:Th} (h:t.wb n):t.ok:=by
 induction h with
 |mk h0 h1 h2 h3 h4 _ ih=>exact .mk (by omega) (by omega) (by omega) h4 ih
set_option maxRecDepth 100000 in
theorem law3 (l k t:List Int) (at_ how by_:Int) (h18:PSp Tryz.prog GLx 18 [] [.bool true]) (ht:∀n∈t,i64 n) (h1:i64 at_) (h2:i64 how) (h3:i64 by_):
  PSp Tryz.prog GLx 3 [nums .i64 l,nums .i64 k,nums .i64 t,.int .i64 at_,.int .i64 how,.int .i64 by_] [.bool true]:=by
 refine psp_of_awp (Zkk 3) rfl ?_;have q4:FSp Tryz.prog GLx 4 [] [] [.ref 0 0] [taxR ps6 bs6]:=p4t;have a0:=some_fair l;have b0:=some_fair k;have c0:=spoil_fair k how by_ h3;have ao:=(someF_tiny l).ok (by decide);have bo:=(someF_tiny k).ok (by decide);have co:=(spoilF_tiny (someF_tiny k) (by decide) how by_ h3).ok (by decide);have hC:clmsE (someF l).claims=0→CsP (someF l).claims:=λhz=>claimsF_CsP l hz;have q5:=(p48 l).fsp;have q5b:=(p48 k).fsp;have q6:=(p12 (someF k) (someF_tiny k) (by decide) how by_).fsp;obtain⟨w6,s6⟩:=thN_wb (nc:=6) (by decide) t 2 0;obtain⟨w8,s8⟩:=thN_wb (nc:=8) (by decide) t 1 0;have q11:=(p21 t ht).fsp;have q11b:=p21b t ht;have e6:thingN 6 2 t=(thN 6 t 2 0).1:=rfl;have e8:thingN 8 1 t=(thN 8 t 1 0).1:=rfl;rw[←e6]at w6 s6;rw[←e8]at w8 s8;obtain⟨t2,wd2,sz2,q12⟩:=p26 (n:=1000) (by decide) w6 at_ how by_ h1 h2 h3;have ok6:=wb_ok (by decide) w6;have ok8:=wb_ok (by decide) w8;have ok2:=wb_ok (by decide) wd2;have hths:∀x∈[thingN 6 2 t,t2,thingN 8 1 t],x.ok∧x.size≤2^40:=by
  intro x hx;simp at hx;rcases hx with rfl|rfl|rfl
  ·exact⟨ok6,by omega⟩
  ·exact⟨ok2,by omega⟩
  ·exact⟨ok8,by omega⟩
 clear e6 e8 w6 w8 s6 s8 wd2 sz2;generalize thingN 6 2 t=T6 at*;generalize thingN 8 1 t=T8 at*;generalize spoilF (someF k) how by_=c at*;generalize someF k=b at*;generalize someF l=a at*;have hl0:Low [taxR ps6 bs6]:=by
  intro row hrow;rw[List.mem_singleton.1 hrow];simp only[taxR,Row.low];refine lts_all λd hd=>?_;rcases List.mem_cons.1 hd with rfl|hd
  ·rfl
  ·obtain⟨b,_,rfl⟩:=List.mem_map.1 hd;rfl
 have hA:=λv2 v3 v4 v5 H Q=>l3a a b c ⟨ao,a0⟩ ⟨bo,b0⟩ ⟨co,c0⟩ v2 v3 v4 v5 H Q;have hB:=λH hl hx d18 Q=>l3o a b c H hl hx a0 b0 c0 d18 [T6,t2,T8] rfl hths Q;have hD:=λH hl hx t18 h18 rs hr h0 hn Q=>l3c H hl hx T6 ok6 t18 h18 rs a hr hC h0 hn Q;have hE:=λH (hl:Low H) hx=>p185x (ps:=ps6) (bs:=bs6) (by decide) bs6_len H 0 hx hl T6 ok6 [a] (by simpa using a0) (by simp);have hN:=λL=>(p13n L T6).fsp;have hAx:axE 6 T6 [a]=0→axL 6 (isTx 6 bs6) T6 [a]=againstL (isTx 6 bs6) T6 [a]:=λh=>by unfold axL;rw[if_pos h]
 have hAn:(againstL (isTx 6 bs6) T6 [a]).length≤2^30:=by
  have h1:=againstL_len (isTx 6 bs6) T6 [a] λr hr=>by
   simp at hr;subst hr;exact a0.len
  simp at h1;omega
 have q18:=h18.fsp;simp only[Zga 3,awp_seq,awp_reg,awp_block,awp_cond,Zge 3 0,Zge 3 1,Zge 3 2,entry];simp;generalize hT0:taxR ps6 bs6=T0 at*;refine⟨_,_,q4,?_⟩;simp[awp_skip];simp only[Zge 3 4];simp;simp at q5 q5b q6 q11 q11b q12 q18 hA;have hcl:∀r:Rgt,r.V.cells.length=8:=λr=>rfl;refine⟨_,_,q5 _,?_⟩;simp;refine⟨_,_,q5b _,?_⟩;simp;refine⟨_,_,q5b _,?_⟩;simp;refine⟨_,_,q6 _,?_⟩;simp[hcl];simp[Zge 3 5,Zge 3 6];refine hA _ _ _ _ _ _ ?_;intro J hJ;have hc3:∀t:Th,t.V.cells.length=3:=λt=>by obtain⟨x,y,z⟩:=t;rfl
 obtain⟨x0,x1,x2,hX,hXc⟩:∃x0 x1 x2,T6.V= .agg [x0,x1,x2]∧T6.cells=[.v x0,.v x1,.v x2]:=by
  obtain⟨x,y,z⟩:=T6;exact⟨_,_,_,Th.V_eq x y z,rfl⟩
 simp[Zge 3 13];refine⟨_,_,q11 _,?_⟩;simp[hX,putL];have hlT:∀n,Row.low n (.cells [.v x0,.v x1,.v x2])=true:=λn=>by
  have:=low_V (n:=n) [x0,x1,x2];simpa[Row.low]using this
 have hlH:Low (T0::(J++[.cells [.v x0,.v x1,.v x2]])):=hl0.lows (hJ.app hlT);have hx0:(T0::(J++[.cells [.v x0,.v x1,.v x2]]))[0]?=some T0:=rfl;have hx18:(T0::(J++[.cells [.v x0,.v x1,.v x2]]))[J.length+1]?=some (.cells [.v x0,.v x1,.v x2]):=by simp
 have hB:=hB _ hlH hx0 (.ref (J.length+1) 0);have hD:=hD _ hlH hx0 (J.length+1) (by rw[hXc];exact hx18);have hE:=hE _ hlH hx0;generalize T0::(J++[.cells [.v x0,.v x1,.v x2]])=H at*;simp only[awp_regD,Zge 3 14];rw[hX]at q12;simp[hx18];refine⟨_,_,⟨rfl,rfl⟩,_,q12,?_⟩;simp;refine⟨_,_,⟨rfl,rfl⟩,_,q11b,?_⟩;have c2:=hc3 t2;have c8:=hc3 T8;simp only[V.cells]at c2 c8;simp[c2,c8,Zge 3 15];simp[hX]at hB;refine hB _ ?_;intro e f13 f15 f18;have ca:=hcl a;simp only[V.cells]at ca;have hE2:FSp Tryz.prog GLx 13 [.ref 0 0,.v (.list [a.V]),.v (.agg [x0,x1,x2])] H [.own 66 2 ((axL 6 (isTx 6 bs6) T6 [a]).map clmV),.v (.int .i64 (axE 6 T6 [a]))] H:=by
  rw[←hX];exact hE
 simp only[awp_regD,Zge 3 25];simp[f13,f15,f18,hx18,ca];refine⟨_,_,hE2,?_⟩;by_cases hE0:axE 6 T6 [a]=0
 ·rw[hAx hE0];have hD:=λQ=>hD [a,b,c] rfl hE0 hAn Q;simp at hD;have hN:=hN (.list [a.V,b.V,c.V]);rw[hX]at hN;simp at hN;simp[hE0,Zge 3 26,awp_skip,Zge 3 28,f13,f15,f18];refine hD _ ?_;intro e g13 g15 g18;simp[Zge 3 40,g13,g15,g18,hx18];refine⟨_,_,hN _,?_⟩;simp[Zge 3 41];refine⟨_,_,q18 _,?_⟩;simp[awp_ret,Zgr 3]
 ·simp[hE0,Zge 3 26,Zge 3 27];refine⟨_,_,q18 _,?_⟩;simp[awp_ret,Zgr 3]
end Go.Va
