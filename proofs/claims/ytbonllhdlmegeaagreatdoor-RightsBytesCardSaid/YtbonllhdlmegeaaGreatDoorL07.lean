/- Laws, part 7. No condition. -/
import Derived.Test.YtbonllhdlmegeaaGreatDoorL06
set_option linter.all false
set_option maxRecDepth 100000
set_option maxHeartbeats 4000000
noncomputable section
namespace Go.Va
section
variable {P:Program} {GL:Globals}
def Row.low (n:Nat):Row→Bool
 | .cells ds=>D.lts n ds
 | .map _ _ _=>true
 | .dead=>true
 | .obj _ _ _=>false
theorem dlt_mono {n m:Nat} (h:n≤m):∀d:D,D.lt n d=true→D.lt m d=true:=by
 intro d;refine D.rec (motive_1:=λd=>D.lt n d=true→D.lt m d=true) (motive_2:=λl=>D.lts n l=true→D.lts m l=true) ?_ ?_ ?_ ?_ ?_ ?_ ?_ ?_ ?_ ?_ ?_ ?_ ?_ ?_ ?_ ?_ d
 all_goals simp only[D.lt,D.lts,decide_eq_true_eq,Bool.and_eq_true,implies_true,true_implies,imp_self]
 all_goals first
  |(intros;omega)
  |(intro a b iha ihb hab;exact⟨iha hab.1,ihb hab.2⟩)
  |(intros;assumption)
  |skip
theorem take_get {μ:List Nat} {r n b:Nat} (h:μ[r]?=some b) (hr:r <n):(μ.take n)[r]?=some b:=by
 rw[List.getElem?_take,if_pos hr];exact h
theorem lts_get {n:Nat}:∀ {ds:List D} {i:Nat} {d:D},D.lts n ds=true→ds[i]?=some d→D.lt n d=true
 |d::ds,i,x,h,hi=>by
  simp only[D.lts,Bool.and_eq_true]at h;cases i with
  |zero=>simp at hi;subst hi;exact h.1
  |succ i=>exact lts_get h.2 (by simpa using hi)
theorem RepC.low {g:Gh} {μ:List Nat} {n:Nat} {d:D} {u:Value} (h:RepC g μ d u) (hl:D.lt n d=true):RepC g (μ.take n) d u:=by
 cases d<;>simp only[RepC]at h ⊢
 ·exact h
 ·obtain⟨b,hb,rfl⟩:=h;exact⟨b,take_get hb (by simpa[D.lt]using hl),rfl⟩
theorem RepE.low {g:Gh} {w:World} {μ:List Nat} {n:Nat} {d:D} {u:Value} (h:RepE g w μ d u) (hl:D.lt n d=true):RepE g w (μ.take n) d u:=by
 cases d<;>simp only[RepE]at h ⊢ <;>try exact h
 ·obtain⟨b,hb,rfl⟩:=h;exact⟨b,take_get hb (by simpa[D.lt]using hl),rfl⟩
 ·obtain⟨b,cap,hb,rfl,hn⟩:=h;exact⟨b,cap,take_get hb (by simpa[D.lt]using hl),rfl,hn⟩
 ·obtain⟨b,hb,rfl⟩:=h;exact⟨b,take_get hb (by simpa[D.lt]using hl),rfl⟩
 ·obtain⟨vs,rfl,h⟩:=h;exact⟨vs,rfl,h.1,λi x v hx hv=>(h.2 i x v hx hv).low (lts_get (by simpa[D.lt]using hl) hx)⟩
 ·obtain⟨vs,rfl,h⟩:=h;exact⟨vs,rfl,h.1,λi x v hx hv=>(h.2 i x v hx hv).low (lts_get (by simpa[D.lt]using hl) hx)⟩
 ·obtain⟨b,hb,rfl⟩:=h;exact⟨b,take_get hb (by simpa[D.lt]using hl),rfl⟩
theorem RepG.low {g:Gh} {w:World} {μ:List Nat} {n:Nat} {d:D} {u:Value} (h:RepG g w μ d u) (hl:D.lt n d=true):RepG g w (μ.take n) d u:=by
 cases d<;>simp only[RepG]at h ⊢ <;>first
  |exact h.low hl
  |(obtain⟨vs,rfl,h,h1,h2⟩:=h
    exact⟨vs,rfl,⟨h.1,λi x v hx hv=>(h.2 i x v hx hv).low (lts_get (by simpa[D.lt]using hl) hx)⟩,h1,h2⟩)
theorem RepD.low {g:Gh} {w:World} {μ:List Nat} {n:Nat} {d:D} {u:Value} (h:RepD g w μ d u) (hl:D.lt n d=true):RepD g w (μ.take n) d u:=by
 cases d<;>simp only[RepD]at h ⊢ <;>first
  |exact h.low hl
  |(obtain⟨vs,rfl,h⟩:=h
    exact⟨vs,rfl,h.1,λi x v hx hv=>(h.2 i x v hx hv).low (lts_get (by simpa[D.lt]using hl) hx)⟩)
theorem Inv.low {g:Gh} {w:World} {μ:List Nat} {t:Nat→D} {u:Nat→Value} {h J:List Row} {O:Nat→Prop} (hi:Inv g w μ t u (h++J) O) (ht:∀n,D.lt h.length (t n)=true) (hh:∀row∈h,Row.low h.length row=true):
  Inv g w (μ.take h.length) t u h O:=by
 have hμl:(μ.take h.length).length=h.length:=by have:=hi.len;simp at this ⊢;omega
 have hget:∀ {r b:Nat},(μ.take h.length)[r]?=some b→r <h.length∧μ[r]?=some b:=by
  intro r b hb;rw[List.getElem?_take]at hb;split at hb
  ·exact⟨‹_›,hb⟩
  ·cases hb
 have hblk:∀p b,blk t u h w (μ.take h.length) p=some b→blk t u (h++J) w μ p=some b:=by
  intro p b hp;cases p with
  |tmp n k=>exact hp
  |cell r k=>
   simp only[blk]at hp ⊢;by_cases hr:r <h.length
   ·have e1:cellD (h++J) r k=cellD h r k:=by simp only[cellD,List.getElem?_append_left hr]
    have e2:cellU w (μ.take h.length) r k=cellU w μ r k:=by simp only[cellU,List.getElem?_take,if_pos hr]
    rw[e1,←e2];exact hp
   ·simp only[cellD,List.getElem?_eq_none (show h.length≤r by omega)]at hp;simp[own1]at hp
 refine⟨hi.agree,hi.olt,λn=>(hi.rep n).low (ht n),hμl,?_,?_,?_,λp q b hp hq=>hi.uniq p q b (hblk p b hp) (hblk q b hq),?_⟩
 ·intro r row b hr hb;obtain⟨hlt,hb⟩:=hget hb;have hrow:=hi.rows r row b (by rw[List.getElem?_append_left hlt];exact hr) hb;have hlow:=hh row (List.mem_of_getElem? hr);cases row with
  |cells ds=>
   obtain⟨vs,T,h1,h2,h3,h4⟩:=hrow;exact⟨vs,T,h1,⟨h2.1,λi x v hx hv=>(h2.2 i x v hx hv).low (lts_get hlow hx)⟩,h3,h4⟩
  |map es st ck=>exact hrow
  |obj tag p m=>simp[Row.low]at hlow
  |dead=>exact hrow
 ·intro r r' b hr hr';exact hi.nod r r' b (hget hr).2 (hget hr').2
 ·intro b hb;exact hi.mo b (List.mem_of_mem_take hb)
 ·intro p b hp;obtain⟨h1,h2⟩:=hi.sep p b (hblk p b hp);exact⟨λhm=>h1 (List.mem_of_mem_take hm),h2⟩
theorem lt_at0 {n:Nat} {d:D} (h:D.lt n d=true) (k:Nat):D.lt n (at0 .any d k)=true:=by
 simp only[at0];split
 ·exact h
 ·rfl
theorem lts_all {n:Nat}:∀ {ds:List D},(∀d∈ds,D.lt n d=true)→D.lts n ds=true
 |[],_=>rfl
 |d::ds,h=>by simp only[D.lts,Bool.and_eq_true];exact⟨h d (by simp),lts_all λx hx=>h x (by simp[hx])⟩
theorem lt_retDs {n:Nat} {ds:List D} (h:∀d∈ds,D.lt n d=true):D.lt n (retDs ds)=true:=by
 match ds with
 |[]=>rfl
 |[x]=>exact h x (by simp)
 |x::y::r=>simp only[retDs,D.lt];exact lts_all h
theorem fsp_low {f n:Nat} {ac:AC} {rs:List AR} {args rets:List D} {h h':List Row} (hk:chkF P GL f n ac rs=true) (hn:args.length=n) (hl:h.length≤h'.length)
  (hh:∀row∈h',Row.low h'.length row=true) (hr:∀d∈rets,D.lt h'.length d=true)
  (hw:awp P GL ac (λe s=>(match e with| .exit _=>False|_=>True)∧resDs s rs=some rets∧∃J,s.h=h'++J) ⟨entryD args,h⟩):FSp P GL f args h rets h':=by
 refine fsp_calls (calls_core (rets:=rets) (h':=h') hk hn (awp_mono ac (λe s=>by
  rintro⟨h1,h2,J,h3⟩;refine⟨h1,rets,h2,λg w μ v O hi=>⟨g,μ.take h'.length,λμ0 hμ0 ⟨tl,hp⟩=>?_,?_,Chg.refl _ _ _⟩⟩
  ·subst hp;rw[List.take_append,List.take_of_length_le (by omega)];exact List.prefix_append _ _
  ·rw[h3]at hi;exact hi.low (lt_at0 (lt_retDs hr)) hh) hw))
end
section
variable {P:Program} {GL:Globals}
theorem Inv.frzRow {g:Gh} {w:World} {μ:List Nat} {t:Nat→D} {u:Nat→Value} {h:List Row} {O:Nat→Prop} (hi:Inv g w μ t u h O) {r b n sz:Nat} {ds:List D} {xs:List V}
  (hr:h[r]?=some (.cells ds)) (hb:μ[r]?=some b) (hxl:xs.length=n) (hxc:∀x∈xs,x.cells.length=sz) (hvs:D.vs? (ds.take (n*sz))=some (xs.flatMap V.cells)):
  ∃g',Inv g' w μ t u (h.set r .dead) O∧Chg (λz=>z=b) g w g' w∧∀cap,n≤cap→RepV g' (.list xs) (.slice (some ⟨b,0,none⟩) n cap):=by
 obtain⟨vs,T,hheap,hall,hone,hgn⟩:=hi.rows r _ b hr hb;have hle:n*sz≤ds.length:=by
  have e1:=vs_len hvs;rw[flatMap_len hxc,hxl,List.length_take]at e1;omega
 have hcl:=vs_rep hvs (hall.take hle);obtain⟨ws,w1,w2,w3⟩:=unflat hxc hcl (λu hu=>hone u (List.mem_of_mem_take hu));have hwl:ws.length=n:=by rw[w1.1,hxl]
 let g':=g.put b 0 (vs.take (n*sz))
 have hgle:g.le g':=Gh.le_put _ λo _ _=>hgn o;have hchg:Chg (λz=>z=b) g w g' w:=⟨hgle,Nat.le_refl _,λ_ _ _=>rfl,λb' _ hb' o=>Gh.put_other hb' o,rfl,rfl⟩;have hag:∀b' o v,g'.m b' o=some v→w.cell? ⟨b',o,none⟩=some v:=by
  intro b' o v hv;by_cases hb':b'=b
  ·subst hb';rw[cell_of_row w b' o _ _ _ hheap];simp only[g',Gh.put]at hv;split at hv
   ·rename_i hc;simp only[Nat.sub_zero]at hv;have h2:=hc.2.2;rw[List.getElem?_take]at hv;split at hv
    ·simpa using hv
    ·cases hv
   ·rw[hgn]at hv;cases hv
  ·simp only[g',Gh.put_other hb']at hv;exact hi.agree b' o v hv
 have hinv:=hi.setAny hr hb .dead hchg hag (lt_of_heap hheap) (λk ds d h=>by cases h);have hsz:∀i,i <n→((λi=>ws.getD i (.bool false)) i).cells.size=sz:=λi hi=>by
  have:i <ws.length:=by omega
  simp only[List.getD,List.getElem?_eq_getElem this,Option.getD_some];exact w3 _ (List.getElem_mem this)
 refine⟨g',hinv,hchg,λcap hcap=>?_⟩;rw[←hxl];refine RepV.list xs ⟨b,0,none⟩ cap sz (λi=>ws.getD i (.bool false)) rfl (by omega) (λi x hi=>?_) (λi hi=>⟨hsz i (by omega),λj v hj=>?_⟩)
 ·obtain⟨u,hu,hru⟩:=w1.get hi;simp only[List.getD,hu,Option.getD_some];exact hru.mono hgle
 ·have hjs:j <sz:=by have:=(List.getElem?_eq_some_iff.1 hj).1;have:=hsz i (by omega);simp at *;omega
  have:=Gh.put_at g b 0 (vs.take (n*sz)) (i*sz+j) v (by
   rw[w2,flat_vs,hwl,flat_get hsz (by omega) hjs];exact hj)
  simpa using this
theorem FSp.frz {f:Nat} {args:List D} {h h':List Row} {ds cs:List D} {i r n sz:Nat} {xs:List V} (hf:FSp P GL f args h [.agg ds] h') (hi:ds[i]?=some (.sref r n)) (hr:h'[r]?=some (.cells cs))
  (hx:xs.length=n) (hxc:∀x∈xs,x.cells.length=sz) (hvs:D.vs? (cs.take (n*sz))=some (xs.flatMap V.cells)):FSp P GL f args h [.agg (ds.set i (.v (.list xs)))] (h'.set r .dead):=by
 obtain⟨h1,h2⟩:=hf;refine⟨h1,λg w μ us O hinv hgl hall htame=>(h2 g w μ us O hinv hgl hall htame).mono ?_⟩;rintro e w' ⟨v,g',μ',rfl,hi',hch,hμ⟩;have hrep:RepD g' w' μ' (.agg ds) v:=hi'.rep 0;obtain⟨vs,rfl,ha,ho,hn⟩:=hrep;obtain⟨u,hu,hru⟩:=ha.get hi;obtain⟨b,cap,hb,rfl,hnc⟩:=hru;obtain⟨g'',hinv'',hchg,hrv⟩:=hi'.frzRow hr hb hx hxc hvs;refine⟨_,g'',μ',rfl,?_,hch.trans (hchg.mono λz (hz:z=b) ho=>hi'.mo b (List.mem_of_getElem? hb) (hz▸ho)),hμ⟩;have hset:=hinv''.set (d:=0) (x:= .agg (ds.set i (.v (.list xs)))) (v:= .agg vs.toArray) ⟨vs,rfl,⟨by rw[List.length_set];exact ha.1,λj x v hj hv=>?_⟩,ho,λd hd v=>?_⟩ (λk=>by cases k<;>simp[ownAt,own1])
 ·refine Eq.mp ?_ hset
  congr 1
  ·funext k
   cases k<;>simp[at0,retDs]
  ·funext k
   cases k<;>simp[at0]
 ·rw[List.getElem?_set]at hj;by_cases hji:i=j
  ·subst hji;rw[if_pos rfl]at hj;split at hj
   ·simp only[Option.some.injEq]at hj;subst hj;rw[hu]at hv;simp only[Option.some.injEq]at hv;subst hv;exact hrv cap hnc
   ·cases hj
  ·rw[if_neg hji]at hj;refine(ha.2 j x v hj hv).chg hchg (List.prefix_refl _) λb' hb'=>?_;rw[hn x (List.mem_of_getElem? hj) v]at hb';cases hb'
 ·rcases List.mem_or_eq_of_mem_set hd with h3|rfl
  ·exact hn d h3 v
  ·rfl
theorem FSp.trim {f:Nat} {args rets:List D} {h h' J:List Row} (hf:FSp P GL f args h rets (h'++J)) (hl:h.length≤h'.length) (hh:∀row∈h',Row.low h'.length row=true) (hr:∀d∈rets,D.lt h'.length d=true):FSp P GL f args h rets h':=by
 obtain⟨h1,h2⟩:=hf;refine⟨h1,λg w μ us O hinv hgl hall htame=>(h2 g w μ us O hinv hgl hall htame).mono ?_⟩;rintro e w' ⟨v,g',μ',rfl,hi',hch,hμ⟩;refine⟨v,g',μ'.take h'.length,rfl,hi'.low (lt_at0 (lt_retDs hr)) hh,hch,?_⟩;obtain⟨tl,rfl⟩:=hμ;rw[List.take_append,List.take_of_length_le (by rw[hinv.len];exact hl)];exact List.prefix_append _ _
theorem psp_of_fsp {f:Nat} {args rets:List V} (hf:FSp P GL f (args.map .v) [] (rets.map .v) []):PSp P GL f args rets:=by
 refine⟨hf.1,λg w us hag hgl hall=>?_⟩;have hinv:Inv g w [] anyT anyU [] (λb=>b <w.heap.size):=by
  refine⟨hag,λb hb=>hb,λn=>by simp[anyT,RepD,RepG,RepE],rfl,λr row b hr=>by simp at hr,λr r' b hr=>by simp at hr,λb hb=>by simp at hb,λp q b hp=>?_,λp b hp=>?_⟩
  ·exfalso;cases p with
   |tmp n k=>cases k<;>simp[blk,anyT,ownAt,own1]at hp
   |cell r k=>simp[blk,cellD,own1]at hp
  ·exfalso;cases p with
   |tmp n k=>cases k<;>simp[blk,anyT,ownAt,own1]at hp
   |cell r k=>simp[blk,cellD,own1]at hp
 refine(hf.2 g w [] us _ hinv hgl ⟨by simpa using hall.1,λi x v hx hv=>?_⟩ (λi d v hd hv=>?_)).mono ?_
 ·simp only[List.getElem?_map,Option.map_eq_some_iff]at hx;obtain⟨y,hy,rfl⟩:=hx;exact hall.2 i y v hy hv
 ·simp only[List.getElem?_map,Option.map_eq_some_iff]at hd;obtain⟨y,_,rfl⟩:=hd;simp[own1]
 ·rintro e w' ⟨v,g',μ',rfl,hi,hc,hμ⟩;obtain rfl:μ'=[]:=List.eq_nil_of_length_eq_zero hi.len;have hr:=hi.rep 0;simp only[at0,if_true,retDs_map]at hr;exact⟨v,g',rfl,hr,⟨hc.le,hc.size,λb hb _=>hc.heap b hb (λh=>h hb),λb hb _=>hc.gh b hb (λh=>h hb),hc.os,hc.out⟩,hi.agree⟩
end
section
variable {P:Program} {GL:Globals}
def Snp (P:Program) (GL:Globals) (Pr:Prims):Prop:=∀f args h x,Pr f args h=some x→∀t,OKT t h→FSp P GL f args (t.ins P GL h) x.1 (t.ins P GL h++x.2)
abbrev Mem:=List (Nat×List V×List V)
def Mem.get:Mem→Nat→List V→Option (List V)
 |[],_,_=>none
 |x::l,f,vs=>bif Nat.beq x.1 f&&V.beqs x.2.1 vs then some x.2.2 else Mem.get l f vs
def Mem.ok (P:Program) (GL:Globals) (M:Mem):Prop:=∀x∈M,PSp P GL x.1 x.2.1 x.2.2
theorem Mem.ok.cons {M:Mem} {f:Nat} {vs r:List V} (h:PSp P GL f vs r) (hM:M.ok P GL):Mem.ok P GL ((f,vs,r)::M):=λx hx=>by
 rcases List.mem_cons.1 hx with rfl|hx
 ·exact h
 ·exact hM x hx
theorem Mem.ok.nil:Mem.ok P GL []:=λx hx=>by cases hx
def memP (M:Mem) (Pr:Prims):Prims:=λf args h=>match allV args with
 |some vs=>match M.get f vs with
  |some r=>some (r.map .v,[])
  |none=>Pr f args h
 |none=>Pr f args h
def noP:Prims:=λ_ _ _=>none
theorem noP_ok:Snp P GL noP:=λf args h x hx=>by cases hx
def evK (T:Tbl) (M:Nat→List V→Option (List V)) (E:Ev) (f:Nat) (vs:List V):Option (List V):=
 match M f vs with
 |some r=>some r
 |none=>evP T (λ_ _=>none) E f vs
def evm (np:Nat→Bool) (M:Nat→List V→Option (List V)) (T:Tbl) (Pr:Prims):Nat→Ev
 |0=>⟨λ_ _ _ _=>none,λ_ _=>none,λ_ _=>none,np⟩
 |n+1=>⟨evF T Pr (evm np M T Pr n),evK T M (evm np M T Pr n),evC (evm np M T Pr n),np⟩
theorem evm_snd {np:Nat→Bool} {M:Nat→List V→Option (List V)} {T:Tbl} {Pr:Prims} (hT:∀f n ac rs,T f=some (n,ac,rs)→chkF P GL f n ac rs=true)
  (hP:Snp P GL Pr) (hM:∀f vs r,M f vs=some r→PSp P GL f vs r):∀n,Snd P GL (evm np M T Pr n)
 |0=>by
  constructor
  ·intro f args h t r h;cases h
  ·intro f vs rets h;cases h
  ·intro ac s os h;cases h
  ·intro ac s os h;cases h
 |n+1=>by
  have ih:=evm_snd (np:=np) hT hP hM n
  constructor
  ·intro f args h t r he hk;exact evF_sound hT hP ih he hk
  ·intro f vs rets he;have he:evK T M (evm np M T Pr n) f vs=some rets:=he;unfold evK at he;split at he
   ·rename_i r hr;simp only[Option.some.injEq]at he;subst he;exact hM _ _ _ hr
   ·exact evP_sound hT ih (λ_ _ _ h=>by cases h) he
  ·intro ac s os he hk;exact evC_K ih he hk
  ·intro ac s os he hk;exact evC_sound ih he hk
def V.near:List V→List V→Bool
 | .int _ a::xs,.int _ b::ys=>bif a==b then V.near xs ys else false
 |_::xs,_::ys=>V.near xs ys
 |_,_=>true
abbrev MF:=List (Nat×List (List V×List V))
def getR:List (List V×List V)→List V→Option (List V)
 |[],_=>none
 |x::l,vs=>bif V.near x.1 vs then (bif V.beqs x.1 vs then some x.2 else getR l vs) else getR l vs
def getF:MF→Nat→List V→Option (List V)
 |[],_,_=>none
 |x::l,f,vs=>bif Nat.beq x.1 f then (match getR x.2 vs with|some r=>some r|none=>getF l f vs) else getF l f vs
def MF.ok (P:Program) (GL:Globals) (M:MF):Prop:=∀x∈M,∀y∈x.2,PSp P GL x.1 y.1 y.2
theorem getR_mem:∀ {l:List (List V×List V)} {vs r:List V},getR l vs=some r→(vs,r)∈l
 |[],_,_,h=>by simp[getR]at h
 |x::l,vs,r,h=>by
  simp only[getR]at h;cases h1:V.near x.1 vs with
  |false=>rw[h1]at h;exact List.mem_cons_of_mem _ (getR_mem h)
  |true=>
   cases h2:V.beqs x.1 vs with
   |false=>rw[h1,h2]at h;exact List.mem_cons_of_mem _ (getR_mem h)
   |true=>
    rw[h1,h2]at h;simp only[cond_true,Option.some.injEq]at h;subst h;rw[←V.beqs_eq h2];exact List.mem_cons_self ..
theorem getF_ok {P:Program} {GL:Globals}:∀ {M:MF},M.ok P GL→∀f vs r,getF M f vs=some r→PSp P GL f vs r
 |[],_,f,vs,r,h=>by simp[getF]at h
 |x::l,hM,f,vs,r,h=>by
  have ht:MF.ok P GL l:=λy hy=>hM y (List.mem_cons_of_mem _ hy);simp only[getF]at h;cases hf:Nat.beq x.1 f with
  |false=>rw[hf]at h;exact getF_ok ht f vs r h
  |true=>
   rw[hf,cond_true]at h;split at h
   ·rename_i r' hr;simp only[Option.some.injEq]at h;subst h;have:=hM x (List.mem_cons_self ..) _ (getR_mem hr)
    rwa [Nat.eq_of_beq_eq_true hf]at this
   ·exact getF_ok ht f vs r h
theorem MF.ok.app {P:Program} {GL:Globals} {M N:MF} (h:M.ok P GL) (h':N.ok P GL):MF.ok P GL (M++N):=λx hx=>(List.mem_append.1 hx).elim (h x) (h' x)
theorem MF.ok.nil {P:Program} {GL:Globals}:MF.ok P GL []:=λx hx=>by cases hx
def resE:Option (List V)→List V→Bool
 |some r,s=>V.beqs r s
 |none,_=>false
def MF.test (E:Ev) (M:MF):Bool:=M.all λx=>x.2.all λy=>resE (E.Pf x.1 y.1) y.2
theorem MF.test_ok {P:Program} {GL:Globals} {E:Ev} (hE:Snd P GL E) {M:MF} (h:M.test E=true):M.ok P GL:=by
 intro x hx y hy;have h1:=List.all_eq_true.1 h x hx;have h2:=List.all_eq_true.1 h1 y hy;unfold resE at h2;split at h2
 ·rename_i r hr;rw[←V.beqs_eq h2];exact hE.Pf hr
 ·cases h2
theorem FSp.ptrR {f:Nat} {args:List D} {h h':List Row} {cs:List V} {r:Nat} (hf:FSp P GL f args h [.ref r 0] h') (hr:h'[r]?=some (.cells (cs.map .v))):FSp P GL f args h [.v (.ptr cs)] (h'.set r .dead):=by
 obtain⟨h1,h2⟩:=hf;refine⟨h1,λg w μ us O hinv hgl hall htame=>(h2 g w μ us O hinv hgl hall htame).mono ?_⟩;rintro e w' ⟨v,g',μ',rfl,hi,hch,hμ⟩;have hrep:RepD g' w' μ' (.ref r 0) v:=hi.rep 0;obtain⟨b,hb,rfl⟩:=hrep;obtain⟨vs,T,hheap,hall2,hone,hgn⟩:=hi.rows r _ b hr hb
 let g2:=g'.put b 0 vs
 have hgle:g'.le g2:=Gh.le_put _ λo _ _=>hgn o;have hchg:Chg (λz=>z=b) g' w' g2 w':=⟨hgle,Nat.le_refl _,λ_ _ _=>rfl,λb' _ hb' o=>Gh.put_other hb' o,rfl,rfl⟩;have hag:∀b' o v,g2.m b' o=some v→w'.cell? ⟨b',o,none⟩=some v:=by
  intro b' o v hv;by_cases hb':b'=b
  ·subst hb';rw[cell_of_row w' b' o _ _ _ hheap];simp only[g2,Gh.put]at hv;split at hv
   ·simpa using hv
   ·rw[hgn]at hv;cases hv
  ·simp only[g2,Gh.put_other hb']at hv;exact hi.agree b' o v hv
 have hinv2:=hi.setAny hr hb .dead hchg hag (lt_of_heap hheap) (λk ds d h=>by cases h);refine⟨_,g2,μ',rfl,?_,hch.trans (hchg.mono λz (hz:z=b) ho=>hi.mo b (List.mem_of_getElem? hb) (hz▸ho)),hμ⟩;have hset:=hinv2.set (d:=0) (x:= .v (.ptr cs)) (v:= .pointer (some ⟨b,0,none⟩)) (RepV.ptr cs ⟨b,0,none⟩ (vs.take cs.length) rfl (by have:=hall2.1;simp at this ⊢;omega) (λi x v hx hv=>?_) (λv hv=>hone v (List.mem_of_mem_take hv)) (λi v hv=>?_)) (λk=>own_v _ _ _)
 ·refine Eq.mp ?_ hset
  congr 1
  ·funext k
   cases k<;>simp[at0,retDs]
  ·funext k
   cases k<;>simp[at0]
 ·rw[List.getElem?_take]at hv;split at hv
  ·have h3:RepV g' x v:=hall2.2 i (.v x) v (by simp[hx]) hv;exact h3.mono hgle
  ·cases hv
 ·rw[List.getElem?_take]at hv;split at hv
  ·simpa using Gh.put_at g' b 0 vs i v hv
  ·cases hv
end
def nums (k:IntKind) (xs:List Int):V:= .list (xs.map (.int k))
theorem wrap_i64 {a:Int} (h1: -9223372036854775808≤a) (h2:a <9223372036854775808):IntKind.i64.wrap a=a:=by
 unfold IntKind.wrap;simp only[IntKind.bits,IntKind.signed];have e1:((2:Int)^64)=18446744073709551616:=by decide
 have e2:((2:Int)^(64-1))=9223372036854775808:=by decide
 simp only[e1,e2,Bool.true_and,decide_eq_true_eq,ge_iff_le];split<;>omega
theorem wrap_u64 {a:Int} (h1:0≤a) (h2:a <18446744073709551616):IntKind.u64.wrap a=a:=by
 unfold IntKind.wrap;simp only[IntKind.bits,IntKind.signed];have e1:((2:Int)^64)=18446744073709551616:=by decide
 simp only[e1,Bool.false_and,Bool.false_eq_true,if_false];omega
def i64 (n:Int):Prop:= -9223372036854775808≤n∧n <9223372036854775808
def u64 (n:Int):Prop:=0≤n∧n <18446744073709551616
def uvarF:Nat→Int→List Int
 |0,n=>[n]
 |k+1,n=>if n <128 then [n] else (128+n%128)::uvarF k (n/128)
def uvar (n:Int):List Int:=uvarF 9 n
def zigI (n:Int):Int:=if n <0 then 2*(-(n+1))+1 else 2*n
def encI (n:Int):List Int:=uvar (zigI n)
def encRaw (b:List Int):List Int:=uvar b.length++b
def encInts (l:List Int):List Int:=uvar l.length++l.flatMap encI
theorem zigI_u64 {n:Int} (h:i64 n):u64 (zigI n):=by
 unfold zigI u64;unfold i64 at h;split<;>omega
theorem uvarF_len:∀(k:Nat) (n:Int),(uvarF k n).length≤k+1
 |0,n=>by simp[uvarF]
 |k+1,n=>by
  simp only[uvarF];split
  ·simp
  ·have:=uvarF_len k (n/128);simp;omega
theorem uvar_len (n:Int):(uvar n).length≤10:=uvarF_len 9 n
theorem encI_len (n:Int):(encI n).length≤10:=uvar_len _
theorem flat_encI_len:∀l:List Int,(l.flatMap encI).length≤10*l.length
 |[]=>by simp
 |x::l=>by
  have:=encI_len x;have:=flat_encI_len l;simp only[List.flatMap_cons,List.length_append,List.length_cons];omega
def wr (xs:List Int):Row:= .cells [.own 5 1 (xs.map (.int .u8))]
theorem wrap_u8 {a:Int} (h1:0≤a) (h2:a <256):IntKind.u8.wrap a=a:=by
 unfold IntKind.wrap;simp only[IntKind.bits,IntKind.signed];have e1:((2:Int)^8)=256:=by decide
 simp only[e1,Bool.false_and,Bool.false_eq_true,if_false];omega
theorem wrap_u8_mod (a:Int):IntKind.u8.wrap a=a%256:=by
 unfold IntKind.wrap;simp only[IntKind.bits,IntKind.signed];have e1:((2:Int)^8)=256:=by decide
 simp only[e1,Bool.false_and,Bool.false_eq_true,if_false]
theorem wrap_u64_mod (a:Int):IntKind.u64.wrap a=a%18446744073709551616:=by
 unfold IntKind.wrap;simp only[IntKind.bits,IntKind.signed];have e1:((2:Int)^64)=18446744073709551616:=by decide
 simp only[e1,Bool.false_and,Bool.false_eq_true,if_false]
theorem or128 (m:Nat) (h:m <256):m ||| 128=128+m%128:=by
 have key:∀m:Fin 256,m.val ||| 128=128+m.val%128:=by decide+kernel
 exact key ⟨m,h⟩
theorem xor_ones (m:Nat) (h:m <2^64):m ^^^ (2^64-1)=2^64-1-m:=by
 rw[Nat.xor_comm];apply Nat.eq_of_testBit_eq;intro i;rw[Nat.testBit_xor,Nat.testBit_two_pow_sub_one];have:(2^64-1-m)=2^64-(m+1):=by omega
 rw[this,Nat.testBit_two_pow_sub_succ h];cases hb:m.testBit i<;>by_cases hi:i <64<;>simp[hi]
 rw[Nat.testBit_lt_two_pow (Nat.lt_of_lt_of_le h (Nat.pow_le_pow_right (by decide) (by omega)))]at hb;cases hb
open Go.Proofs
theorem p193 (n:Int) (hn:i64 n):PSp Tryz.prog GLx 77 [.int .i64 n] [.int .u64 (zigI n)]:=by
 refine psp_of_awp (Zkk 77) rfl ?_;simp[Zga 77,awp,Zge 77 0,Zge 77 1,Zgr 77,entry];have e1:((2:Int)^min 1 IntKind.u64.bits)=2:=by decide
 have e2:((2:Int)^min 63 IntKind.i64.bits)=9223372036854775808:=by decide
 have e3:((2:Int)^IntKind.u64.bits)=18446744073709551616:=by decide
 simp only[e1,e2,e3,wrap_u64_mod];unfold i64 at hn;unfold zigI;by_cases h0:n <0
 ·have q:n.fdiv 9223372036854775808= -1:=by rw[Int.fdiv_eq_ediv_of_nonneg _ (by decide)];omega
  have a1:(n%18446744073709551616*2%18446744073709551616%18446744073709551616).toNat=(18446744073709551616+2*n).toNat:=by congr 1;omega
  have a2:(n.fdiv 9223372036854775808%18446744073709551616%18446744073709551616).toNat=2^64-1:=by rw[q];rfl
  rw[a1,a2,xor_ones _ (by omega),if_pos h0];omega
 ·have q:n.fdiv 9223372036854775808=0:=by rw[Int.fdiv_eq_ediv_of_nonneg _ (by decide)];omega
  have a1:(n%18446744073709551616*2%18446744073709551616%18446744073709551616).toNat=(2*n).toNat:=by congr 1;omega
  have a2:(n.fdiv 9223372036854775808%18446744073709551616%18446744073709551616).toNat=0:=by rw[q];rfl
  rw[a1,a2,Nat.xor_zero,if_neg h0];omega
theorem p199 (n:Int) (hn:i64 n):PSp Tryz.prog GLx 121 [.int .i64 n] [.int .u64 (zigI n)]:=by
 refine psp_of_awp (Zkk 121) rfl ?_;unfold i64 at hn;unfold zigI;by_cases h0:n <0
 ·simp[Zga 121,awp,Zge 121 0,Zge 121 1,Zge 121 2,Zgr 121,entry,h0];have a1:IntKind.i64.wrap (n+1)=n+1:=wrap_i64 (by omega) (by omega);rw[a1,wrap_i64 (a:= -(n+1)) (by omega) (by omega)];simp only[wrap_u64_mod];omega
 ·simp[Zga 121,awp,Zge 121 0,Zge 121 1,Zge 121 3,Zgr 121,entry,h0];simp only[wrap_u64_mod];omega
theorem or_byte {n:Int}:IntKind.u8.wrap (((IntKind.u8.wrap n%2^IntKind.u8.bits).toNat ||| 128%2^IntKind.u8.bits:Nat):Int)=128+n%128:=by
 have e3:((2:Int)^IntKind.u8.bits)=256:=by decide
 have e4:(128%2^IntKind.u8.bits)=128:=by decide
 rw[e3,e4];have hm:(IntKind.u8.wrap n%256).toNat <256:=by rw[wrap_u8_mod];omega
 rw[or128 _ hm,wrap_u8_mod,wrap_u8_mod];omega
theorem l192 (k:Nat):∀(n:Int) (h:List Row) (r:Nat) (xs:List Int),0≤n→n <128^(k+1)→n <18446744073709551616→h[r]?=some (wr xs)→xs.length+k≤2^46→
  ∃ys m,uvarF k n=ys++[m]∧0≤m∧m <128∧
  awp Tryz.prog GLx (.loop (lG 76 0)) (λe s=>e= .exit 0∧s=⟨[(0,.ref r 0),(1,.v (.int .u64 m)),(5,.v (.bool false))],h.set r (wr (xs++ys))⟩) ⟨[(0,.ref r 0),(1,.v (.int .u64 n))],h⟩:=by
 induction k with
 |zero=>
  intro n h r xs h0 h1 h2 hr hl;refine⟨[],n,rfl,h0,by simpa using h1,?_⟩;have h3':(128:Int)^(0+1)=128:=by decide
  have h3:¬128≤n:=by omega
  refine awp_loop_end ?_;simp only[Zgl 76 0,awp_seq,awp_reg,awp_block,awp_cond,Zge 76 0];simp[h3,awp_exit,set_self hr]
 |succ k ih=>
  intro n h r xs h0 h1 h2 hr hl;by_cases h3:128≤n
  ·have hr2:∀x,(h.set r x)[r]?=some x:=λx=>get_set hr;have hd0:0≤n/128:=by omega
   have hd1:n/128 <128^(k+1):=Int.ediv_lt_of_lt_mul (by decide) (by rw[←Int.pow_succ];exact h1);obtain⟨ys,m,e1,e2,e3,hw⟩:=ih (n/128) (h.set r (wr (xs++[128+n%128]))) r (xs++[128+n%128]) hd0 hd1 (by omega) (hr2 _) (by simp;omega);refine⟨(128+n%128)::ys,m,?_,e2,e3,?_⟩
   ·simp only[uvarF,if_neg (show ¬n <128 by omega),e1,List.cons_append]
   ·refine awp_loop_one (s1:=⟨[(0,.ref r 0),(1,.v (.int .u64 (n/128)))],h.set r (wr (xs++[128+n%128]))⟩) ?_ ?_
    ·simp only[Zgl 76 0,awp_seq,awp_reg,awp_block,awp_cond,Zge 76 0];simp[h3,awp_skip];have hroom:roomy (xs.length+1) 1=true:=by simp[roomy];omega
     have e5:((2:Int)^min 7 IntKind.u64.bits)=128:=by decide
     simp only[Zge 76 2,Zge 76 1];simp[hr,wr,hr2,V.cells,ownOf,headOK,hroom,or_byte,e5,Int.fdiv_eq_ediv_of_nonneg]
    ·rw[List.set_set]at hw;simpa using hw
  ·refine⟨[],n,by simp only[uvarF,if_pos (show n <128 by omega)];rfl,h0,by omega,?_⟩;refine awp_loop_end ?_;simp only[Zgl 76 0,awp_seq,awp_reg,awp_block,awp_cond,Zge 76 0];simp[h3,awp_exit,set_self hr]
theorem p192 (n:Int) (hn:u64 n) (h:List Row) (r:Nat) (xs:List Int) (hr:h[r]?=some (wr xs)) (hl:xs.length≤2^45):FSp Tryz.prog GLx 76 [.ref r 0,.v (.int .u64 n)] h [] (h.set r (wr (xs++uvar n))):=by
 refine fsp_of_awp (Zkk 76) rfl ?_;unfold u64 at hn;have h128:(128:Int)^(9+1)=1180591620717411303424:=by decide
 obtain⟨ys,m,e1,e2,e3,hw⟩:=l192 9 n h r xs hn.1 (by omega) hn.2 hr (by omega);have hys:ys.length≤9:=by have:=uvarF_len 9 n;rw[e1]at this;simp at this;omega
 simp only[Zga 76,awp_seq,awp_block,entryD];simp;refine awp_to hw ?_;have hr2:∀x,(h.set r x)[r]?=some x:=λx=>get_set hr;have hroom:roomy (xs.length+ys.length+1) 1=true:=by simp[roomy];omega
 simp only[awp_reg,Zge 76 3];simp[wr,hr2,V.cells,ownOf,headOK,hroom,wrap_u8 e2 (show m <256 by omega),Zgr 76,resDs,uvar,e1]
def bytesI (b:ByteArray):List Int:=b.data.toList.map λc=>(c.toNat:Int)
attribute [simp] fnOf D.norm argsOf D.arg retDs get_set get_app V.cells resDs AR.d D.keep
@[simp] theorem headOK_nil (s:Nat):headOK s []=true:=rfl
@[simp] theorem headOK_cons (s:Nat) (x:V) (xs:List V):headOK s (x::xs)=(x.cells.length==s):=rfl
@[simp] theorem headOK_int (k:IntKind) (l:List Int):headOK 1 (l.map (V.int k))=true:=by cases l<;>rfl
theorem awp_loop_nat0 {P:Program} {GL:Globals} {c:AC} {Q:AExit→St→Prop} (n:Nat) (S:Nat→St) {s:St} (hs:s=S 0)
  (h:∀k,k≤n→awp P GL c (λe s'=>match e with| .normal=>k <n∧s'=S (k+1)|e=>Q e s') (S k)):awp P GL (.loop c) Q s:=
 hs▸awp_loop_nat n S h 0 (Nat.zero_le _)
theorem flat_take {α β:Type} {f:α→List β} {l:List α} {k:Nat} (h:k <l.length):(l.take (k+1)).flatMap f=(l.take k).flatMap f++f l[k]:=by
 rw[List.take_succ_eq_append_getElem h,List.flatMap_append];simp
theorem p98 (n:Int) (hn:i64 n) (h:List Row) (r:Nat) (xs:List Int) (hr:h[r]?=some (wr xs)) (hl:xs.length≤2^45):FSp Tryz.prog GLx 21 [.ref r 0,.v (.int .i64 n)] h [] (h.set r (wr (xs++encI n))):=by
 refine fsp_of_awp (Zkk 21) rfl ?_;simp[Zga 21,awp,Zge 21 0,Zgr 21,entryD];refine⟨_,_,(p193 n hn).fsp h,?_⟩;simp;exact⟨_,(p192 (zigI n) (zigI_u64 hn) h r xs hr hl)⟩
theorem p194 (b:ByteArray) (hb:b.size≤2^40) (h:List Row) (r:Nat) (xs:List Int) (hr:h[r]?=some (wr xs)) (hl:xs.length≤2^45):FSp Tryz.prog GLx 79 [.ref r 0,.v (.str b)] h [] (h.set r (wr (xs++encRaw (bytesI b)))):=by
 refine fsp_of_awp (Zkk 79) rfl ?_;have hbl:(bytesI b).length=b.size:=by simp[bytesI]
 have w1:IntKind.u64.wrap (b.size:Int)=b.size:=wrap_u64 (by omega) (by omega);simp[Zga 79,awp,Zge 79 0,Zge 79 1,Zgr 79,entryD,w1];refine⟨_,_,(p192 b.size ⟨by omega,by omega⟩ h r xs hr hl),?_⟩;have hu:=uvar_len b.size;have hroom:roomy (xs.length+(uvar b.size).length+b.size) 1=true:=by simp[roomy];omega
 simp[get_set hr,wr,hroom,encRaw,hbl];simp[bytesI,Function.comp_def]
theorem p198a (k:Nat):∀(n:Int) (h:List Row) (xs:List Int),0≤n→n <128^(k+1)→n <18446744073709551616→xs.length+k≤2^46→
  ∃ys m,uvarF k n=ys++[m]∧0≤m∧m <128∧
  awp Tryz.prog GLx (.loop (lG 85 0)) (λe s=>e= .exit 0∧s=⟨[(0,.v (.int .u64 m)),(3,.own 5 1 ((xs++ys).map (.int .u8))),(5,.v (.bool false))],h⟩) ⟨[(0,.v (.int .u64 n)),(3,.own 5 1 (xs.map (.int .u8)))],h⟩:=by
 induction k with
 |zero=>
  intro n h xs h0 h1 h2 hl;refine⟨[],n,rfl,h0,by simpa using h1,?_⟩;have h3':(128:Int)^(0+1)=128:=by decide
  have h3:¬127 <n:=by omega
  refine awp_loop_end ?_;simp only[Zgl 85 0,awp_seq,awp_reg,awp_block,awp_cond,Zge 85 2];simp[h3,awp_exit]
 |succ k ih=>
  intro n h xs h0 h1 h2 hl;by_cases h3:127 <n
  ·have hd0:0≤n/128:=by omega
   have hd1:n/128 <128^(k+1):=Int.ediv_lt_of_lt_mul (by decide) (by rw[←Int.pow_succ];exact h1);obtain⟨ys,m,e1,e2,e3,hw⟩:=ih (n/128) h (xs++[128+n%128]) hd0 hd1 (by omega) (by simp;omega);refine⟨(128+n%128)::ys,m,?_,e2,e3,?_⟩
   ·simp only[uvarF,if_neg (show ¬n <128 by omega),e1,List.cons_append]
   ·refine awp_loop_one (s1:=⟨[(0,.v (.int .u64 (n/128))),(3,.own 5 1 ((xs++[128+n%128]).map (.int .u8)))],h⟩) ?_ ?_
    ·simp only[Zgl 85 0,awp_seq,awp_reg,awp_block,awp_cond,Zge 85 2];simp[h3,awp_skip];have hroom:roomy (xs.length+1) 1=true:=by simp[roomy];omega
     have w1:IntKind.u64.wrap (n/128)=n/128:=wrap_u64 (by omega) (by omega);have w2:IntKind.u64.wrap (n%128)=n%128:=wrap_u64 (by omega) (by omega);have w3:IntKind.u64.wrap (128+n%128)=128+n%128:=wrap_u64 (by omega) (by omega);have w4:IntKind.u8.wrap (128+n%128)=128+n%128:=wrap_u8 (by omega) (by omega);simp only[Zge 85 3,Zge 85 4];simp[ownOf,hroom,Int.tdiv_eq_ediv_of_nonneg h0,Int.tmod_eq_emod_of_nonneg h0,w1,w3,w4]
    ·simpa using hw
  ·refine⟨[],n,by simp only[uvarF,if_pos (show n <128 by omega)];rfl,h0,by omega,?_⟩;refine awp_loop_end ?_;simp only[Zgl 85 0,awp_seq,awp_reg,awp_block,awp_cond,Zge 85 2];simp[h3,awp_exit]
theorem p198 (n:Int) (hn:u64 n) (h:List Row):FSp Tryz.prog GLx 85 [.v (.int .u64 n)] h [.own 5 1 ((uvar n).map (.int .u8))] h:=by
 refine fsp_of_awp (Zkk 85) rfl ?_;unfold u64 at hn;have h128:(128:Int)^(9+1)=1180591620717411303424:=by decide
 obtain⟨ys,m,e1,e2,e3,hw⟩:=p198a 9 n h [] hn.1 (by omega) hn.2 (by decide);have hys:ys.length≤9:=by have:=uvarF_len 9 n;rw[e1]at this;simp at this;omega
 simp only[Zga 85,awp_seq,awp_block,awp_reg,Zge 85 0,Zge 85 1,entryD];simp;simp at hw;refine awp_to hw ?_;have hroom:roomy (ys.length+1) 1=true:=by simp[roomy];omega
 simp only[Zge 85 5];simp[hroom,wrap_u8 e2 (show m <256 by omega),Zgr 85,uvar,e1,awp_ret]
theorem p104 (n:Int) (hn:i64 n) (h:List Row):FSp Tryz.prog GLx 84 [.v (.int .i64 n)] h [.own 5 1 ((encI n).map (.int .u8))] h:=by
 refine fsp_of_awp (Zkk 84) rfl ?_;simp[Zga 84,awp,Zge 84 0,Zge 84 1,Zgr 84,entryD];refine⟨_,_,(p199 n hn).fsp h,?_⟩;simp;refine⟨_,(p198 (zigI n) (zigI_u64 hn) h),?_⟩;simp[encI]
theorem p105 (xs:List Int) (hb:xs.length≤2^45) (h:List Row):FSp Tryz.prog GLx 29 [.v (nums .u8 xs)] h [.own 5 1 ((encRaw xs).map (.int .u8))] h:=by
 refine fsp_of_awp (Zkk 29) rfl ?_;have w1:IntKind.u64.wrap (xs.length:Int)=xs.length:=wrap_u64 (by omega) (by omega);simp[Zga 29,awp,Zge 29 0,Zge 29 1,Zgr 29,entryD,nums,w1];refine⟨_,_,(p198 xs.length ⟨by omega,by omega⟩ h),?_⟩;have hu:=uvar_len xs.length;have hroom:roomy ((uvar xs.length).length+xs.length) 1=true:=by simp[roomy];omega
 simp[hroom,encRaw]
theorem p107 (l:List Int) (hi:∀n∈l,i64 n) (hb:l.length≤2^40) (h:List Row):FSp Tryz.prog GLx 30 [.v (nums .i64 l)] h [.own 5 1 ((encInts l).map (.int .u8))] h:=by
 refine fsp_of_awp (Zkk 30) rfl ?_;have w1:IntKind.u64.wrap (l.length:Int)=l.length:=wrap_u64 (by omega) (by omega);simp only[Zga 30,awp_seq,awp_block,awp_reg,Zge 30 0,Zge 30 1,Zge 30 2,entryD];simp[nums,w1];refine⟨_,_,(p198 l.length ⟨by omega,by omega⟩ h),?_⟩;have hu:=uvar_len l.length;simp;refine awp_loop_nat0 l.length (λk=>⟨[(0,.v (nums .i64 l)),(3,.own 5 1 ((uvar l.length++(l.take k).flatMap encI).map (.int .u8))),(4,.v (.int .i64 k))],h⟩) (by simp[nums]) ?_;intro k hk;simp only[Zgl 30 0,awp_seq,awp_reg,awp_block,awp_cond,Zge 30 3];simp[nums];by_cases h1:k <l.length
 ·have hx:l[k]?=some l[k]:=List.getElem?_eq_getElem h1;have hw:IntKind.i64.wrap ((k:Int)+1)=k+1:=wrap_i64 (by omega) (by omega);rw[if_pos (by omega),awp_skip];simp only[Zge 30 4,Zge 30 5];simp[hx];refine⟨_,_,(p104 l[k] (hi _ (List.getElem_mem h1)) h),?_⟩;have hf:=flat_encI_len (l.take k);have he:=encI_len l[k];have ht:(l.take k).length=k:=by simp;omega
  have hroom:roomy ((uvar l.length).length+((l.take k).flatMap encI).length+(encI l[k]).length) 1=true:=by simp[roomy,-List.length_flatMap];omega
  simp[hroom,h1,hw,-List.length_flatMap];rw[flat_take h1];simp
 ·have:k=l.length:=by omega
  subst this;rw[if_neg (by omega),awp_exit];simp[awp_ret,Zge 30 6,Zgr 30,encInts]
theorem p117 (xs:List Int) (hb:xs.length≤2^45):∀h,FSp Tryz.prog GLx 47 [.v (nums .u8 xs)] h [.own 5 1 (xs.map (.int .u8))] h:=by
 intro h;refine fsp_of_awp (Zkk 47) rfl ?_;have hroom:roomy xs.length 1=true:=by simp[roomy];omega
 cases xs with
 |nil=>simp[Zga 47,awp,Zge 47 0,Zge 47 1,Zge 47 2,Zge 47 3,Zgr 47,entryD,nums,roomy]
 |cons x xs=>simp[Zga 47,awp,Zge 47 0,Zge 47 1,Zge 47 2,Zge 47 3,Zgr 47,entryD,nums]at hroom ⊢;simp[hroom]
theorem p102 (h:List Row) (r:Nat) (xs:List Int) (hr:h[r]?=some (wr xs)) (hl:xs.length≤2^45):FSp Tryz.prog GLx 25 [.ref r 0] h [.own 5 1 (xs.map (.int .u8))] h:=by
 refine fsp_of_awp (Zkk 25) rfl ?_;simp[Zga 25,awp,Zge 25 0,Zge 25 1,Zgr 25,entryD,hr,wr];refine⟨_,(p117 xs hl h),?_⟩;simp
theorem p100 (l:List Int) (hi:∀n∈l,i64 n) (hb:l.length≤2^40) (h:List Row) (r:Nat) (xs:List Int) (hr:h[r]?=some (wr xs)) (hl:xs.length≤2^44):FSp Tryz.prog GLx 24 [.ref r 0,.v (nums .i64 l)] h [] (h.set r (wr (xs++encInts l))):=by
 refine fsp_of_awp (Zkk 24) rfl ?_;have w1:IntKind.u64.wrap (l.length:Int)=l.length:=wrap_u64 (by omega) (by omega);simp only[Zga 24,awp_seq,awp_block,awp_reg,Zge 24 0,Zge 24 1,entryD];simp[nums,w1];refine⟨_,_,(p192 l.length ⟨by omega,by omega⟩ h r xs hr (by omega)),?_⟩;have hu:=uvar_len l.length
 try simp
 refine awp_loop_nat0 l.length (λk=>⟨[(0,.ref r 0),(11,.v (nums .i64 l)),(12,.v (.int .i64 l.length)),(13,.v (.int .i64 k))],h.set r (wr (xs++(uvar l.length++(l.take k).flatMap encI)))⟩) (by simp[nums]) ?_;intro k hk;simp only[Zgl 24 0,awp_seq,awp_reg,awp_block,awp_cond,Zge 24 2];simp[nums];by_cases h1:k <l.length
 ·have hx:l[k]?=some l[k]:=List.getElem?_eq_getElem h1;have hw:IntKind.i64.wrap ((k:Int)+1)=k+1:=wrap_i64 (by omega) (by omega);rw[if_pos (by omega),awp_skip];simp only[Zge 24 3,Zge 24 4,Zge 24 5];simp[hx];have hf:=flat_encI_len (l.take k);have ht:(l.take k).length=k:=by simp;omega
  refine⟨_,_,(p98 l[k] (hi _ (List.getElem_mem h1)) _ r (xs++(uvar l.length++(l.take k).flatMap encI)) (get_set hr) (by simp only[List.length_append];omega)),?_⟩;simp[h1,hw,flat_take h1]
 ·have:k=l.length:=by omega
  subst this;rw[if_neg (by omega),awp_exit];simp[Zgr 24,encInts]
def rdr (xs:List Int):Row:= .cells [.v (nums .u8 xs),.v (.int .i64 0)]
theorem p44 (xs:List Int) (hb:xs.length≤2^45) (h:List Row):FSp Tryz.prog GLx 12 [.v (nums .u8 xs)] h [.ref h.length 0] (h++[rdr xs]):=by
 refine fsp_of_awp (Zkk 12) rfl ?_;simp[Zga 12,awp,Zge 12 0,Zge 12 1,Zgr 12,entryD];refine⟨_,_,(p117 xs hb h),?_⟩;simp[rdr,nums,putL,D.toRow]
theorem p118 (n:Int) (hn:i64 n):PSp Tryz.prog GLx 48 [.int .u64 (zigI n)] [.int .i64 n]:=by
 refine psp_of_awp (Zkk 48) rfl ?_;unfold i64 at hn;unfold zigI;have e1:((2:Int)^IntKind.u64.bits)=18446744073709551616:=by decide
 have e2:((2:Int)^IntKind.i64.bits)=18446744073709551616:=by decide
 have e3:((1:Int)%18446744073709551616).toNat=1:=by decide
 have e4:(2:Int)^min 1 IntKind.u64.bits=2:=by decide
 by_cases h0:n <0
 ·simp[Zga 48,awp,Zge 48 0,Zge 48 1,Zgr 48,entry,h0];have d1:(2* -(n+1)+1).fdiv (2^min 1 IntKind.u64.bits)= -(n+1):=by
   rw[e4,Int.fdiv_eq_ediv_of_nonneg _ (by decide)];omega
  have d2:((2* -(n+1)+1)%18446744073709551616).toNat%2=1:=by omega
  rw[d1,e1,e2,e3,Nat.and_one_is_mod,d2,wrap_i64 (a:= -(n+1)) (by omega) (by omega)];have d3:IntKind.i64.wrap (-IntKind.i64.wrap (IntKind.u64.wrap ((1:Nat):Int)))= -1:=by decide
  rw[d3];have d4:((-1:Int)%18446744073709551616).toNat=2^64-1:=by decide
  rw[d4,xor_ones _ (by omega)];have d5:((2^64-1-(-(n+1)%18446744073709551616).toNat:Nat):Int)=n+18446744073709551616:=by omega
  rw[d5];have:IntKind.i64.wrap (n+18446744073709551616)=n:=by
   unfold IntKind.wrap;simp only[IntKind.bits,IntKind.signed];have e5:((2:Int)^64)=18446744073709551616:=by decide
   simp only[e5];simp;omega
  exact this
 ·simp[Zga 48,awp,Zge 48 0,Zge 48 1,Zgr 48,entry,h0];have d1:(2*n).fdiv (2^min 1 IntKind.u64.bits)=n:=by
   rw[e4,Int.fdiv_eq_ediv_of_nonneg _ (by decide)];omega
  have d2:((2*n)%18446744073709551616).toNat%2=0:=by omega
  rw[d1,e1,e2,e3,Nat.and_one_is_mod,d2,wrap_i64 (a:=n) (by omega) (by omega)];have d3:IntKind.i64.wrap (-IntKind.i64.wrap (IntKind.u64.wrap ((0:Nat):Int)))=0:=by decide
  rw[d3];have d4:((0:Int)%18446744073709551616).toNat=0:=by decide
  rw[d4,Nat.xor_zero,wrap_i64 (by omega) (by omega)];omega
theorem p203 (c:Int) (xs:List Int) (h:List Row) (r:Nat) (hr:h[r]?=some (rdr (c::xs))):FSp Tryz.prog GLx 91 [.ref r 0] h [.v (.int .u8 c)] (h.set r (rdr xs)):=by
 refine fsp_of_awp (Zkk 91) rfl ?_;have h1:¬((xs.length:Int)+1=0):=by omega
 simp[Zga 91,awp,Zge 91 0,Zge 91 1,Zge 91 3,Zge 91 5,Zge 91 6,Zge 91 7,Zgr 91,entryD,hr,rdr,nums,h1];simp[putL]
theorem and_byte {c:Int} (h0:0≤c) (h1:c <256):IntKind.u8.wrap (((c%2^IntKind.u8.bits).toNat &&& 2^IntKind.u8.bits-1-128%2^IntKind.u8.bits:Nat):Int)=c%128:=by
 have key:∀m:Fin 256,IntKind.u8.wrap ((((m.val:Int)%2^IntKind.u8.bits).toNat &&& 2^IntKind.u8.bits-1-128%2^IntKind.u8.bits:Nat):Int)=(m.val:Int)%128:=by decide+kernel
 have:=key ⟨c.toNat,by omega⟩;simpa only[Int.toNat_of_nonneg h0]using this
theorem or_add {a b:Int} {i:Nat} (h0:0≤a) (h1:a <2^i) (h2:0≤b) (h3:a+b*2^i <18446744073709551616):
  (a.toNat ||| (b*2^i).toNat:Nat)=(a+b*2^i).toNat:=by
 have e1:(b*2^i).toNat=2^i*b.toNat:=by
  obtain⟨m,rfl⟩:=Int.eq_ofNat_of_zero_le h2;have:((m:Int)*2^i)=((2^i*m:Nat):Int):=by push_cast;rw[Int.mul_comm]
  rw[this,Int.toNat_natCast,Int.toNat_natCast]
 have e2:a.toNat <2^i:=by
  have:((2^i:Nat):Int)=2^i:=by push_cast;rfl
  omega
 rw[e1,Nat.or_comm,←Nat.two_pow_add_eq_or_of_lt e2];have e3:((2^i*b.toNat:Nat):Int)=b*2^i:=by
  rw[←e1];exact Int.toNat_of_nonneg (Int.mul_nonneg h2 (Int.le_of_lt (Int.pow_pos (by decide))))
 omega
theorem b119 {Q:AExit→St→Prop} {c acc:Int} {i:Nat} {h:List Row} {r:Nat} {xs:List Int} (hr:h[r]?=some (rdr (c::xs))) (hc:0≤c∧c <256) (hi:i≤9) (h9:¬(i=9∧1 <c)) (h0:¬(0 <i∧c=0))
  (ha:0≤acc∧acc <128^i) (hs:acc+(c%128)*128^i <18446744073709551616)
  (hret:c <128→Q .ret ⟨[(2,.v (.int .u64 (acc+c*128^i)))],h.set r (rdr xs)⟩)
  (hgo:128≤c→Q .normal ⟨[(0,.ref r 0),(3,.v (.int .u64 (acc+(c%128)*128^i))),(4,.v (.int .i64 (i+1)))],h.set r (rdr xs)⟩):
  awp Tryz.prog GLx (lG 49 0) Q ⟨[(0,.ref r 0),(3,.v (.int .u64 acc)),(4,.v (.int .i64 i))],h⟩:=by
 simp only[Zgl 49 0,awp_seq,awp_reg,awp_block,awp_cond,Zge 49 3];simp[hr,rdr,nums,awp_skip];simp only[Zge 49 5];simp;refine⟨_,_,(p203 c xs h r hr),?_⟩;have hj:i=9∧¬1 <c∧¬c=0∨i=0∨(0 <i∧¬i=9∧¬c=0):=by omega
 have a1:=and_byte hc.1 hc.2;have a2:IntKind.u64.wrap (c%128)=c%128:=wrap_u64 (by omega) (by omega);have a3:IntKind.i64.wrap (7*(i:Int))=7*i:=wrap_i64 (by omega) (by omega);have a6:IntKind.i64.wrap ((i:Int)+1)=i+1:=wrap_i64 (by omega) (by omega);have e64:((2:Int)^IntKind.u64.bits)=18446744073709551616:=by decide
 have k3:0≤7*(i:Int):=by omega
 have p128:(128:Int)^i=2^(7*i):=by rw[Int.pow_mul];rfl
 have hx0:0≤c%128*128^i:=Int.mul_nonneg (by omega) (Int.le_of_lt (Int.pow_pos (by decide)));have a4:IntKind.u64.wrap (c%128*2^min (7*(i:Int)).toNat IntKind.u64.bits)=c%128*128^i:=by
  have:min (7*(i:Int)).toNat IntKind.u64.bits=7*i:=by
   have:(7*(i:Int)).toNat=7*i:=by omega
   rw[this];exact Nat.min_eq_left (by show 7*i≤64;omega)
  rw[this,←p128,wrap_u64 hx0 (by omega)]
 have a5:IntKind.u64.wrap (((acc%2^IntKind.u64.bits).toNat ||| (c%128*128^i%2^IntKind.u64.bits).toNat:Nat):Int)=acc+c%128*128^i:=by
  rw[e64,Int.emod_eq_of_lt ha.1 (by omega),Int.emod_eq_of_lt hx0 (by omega)];rw[p128]at hs ⊢;rw[or_add ha.1 (by rw[←p128];exact ha.2) (by omega) hs,Int.toNat_of_nonneg (by rw[←p128];omega),wrap_u64 (by rw[←p128];omega) hs]
 have tail:∀x:D,awpOps Tryz.prog GLx (oG 49 8) (λs'=>awpOps Tryz.prog GLx (oG 49 9) (λs'=>match (find s'.e 47).copy with
   | .v (.bool t)=>if t=true then awpOps Tryz.prog GLx (oG 49 10) (λs'=>Q .ret ⟨[(2,find s'.e 2)],s'.h⟩) ⟨[(0,find s'.e 0),(3,find s'.e 3),(4,find s'.e 4),(47,find s'.e 47)],s'.h⟩
    else awpOps Tryz.prog GLx (oG 49 4) (λs'=>Q .normal ⟨[(0,find s'.e 0),(3,find s'.e 3),(4,find s'.e 4)],s'.h⟩) ⟨[(0,find s'.e 0),(3,find s'.e 3),(4,find s'.e 4),(47,find s'.e 47)],s'.h⟩
   |_=>False) ⟨[(0,find s'.e 0),(3,find s'.e 3),(4,find s'.e 4),(5,find s'.e 5)],s'.h⟩) ⟨[(0,.ref r 0),(3,.v (.int .u64 acc)),(4,.v (.int .i64 i)),(5,.v (.int .u8 c)),(28,x)],h.set r (rdr xs)⟩:=by
  intro x;simp only[Zge 49 8];simp[a1,a2,a3,k3,a4,a5];simp only[Zge 49 9];by_cases hl:c <128
  ·have hm:c%128=c:=by omega
   simp[hl,get_set hr,rdr,nums];simp only[Zge 49 10];simp;rw[hm];exact hret hl
  ·simp[hl,rdr,nums];simp only[Zge 49 4];simp[a6];exact hgo (by omega)
 rcases hj with ⟨j0,j1,j2⟩|j0|⟨j0,j1,j2⟩
 ·have k1:((i:Int)=9)=True:=eq_true (by omega);have k2:0 <i:=by omega
  simp only[Zge 49 6];simp[k1,k2,j1,j2];exact tail _
 ·have k1:((i:Int)=9)=False:=eq_false (by omega);have k2:¬0 <i:=by omega
  simp only[Zge 49 6];simp[k1,k2];exact tail _
 ·have k1:((i:Int)=9)=False:=eq_false (by omega);simp only[Zge 49 6];simp[k1,j0,j2];exact tail _
theorem l119 (k:Nat):∀(m acc:Int) (i:Nat) (h:List Row) (r:Nat) (rest:List Int),i+k=9→0≤acc→acc <128^i→0≤m→m <128^(k+1)→acc+m*128^i <18446744073709551616→(0 <i→0 <m)→
  h[r]?=some (rdr (uvarF k m++rest))→
  awp Tryz.prog GLx (.loop (lG 49 0)) (λe s=>e= .ret∧s=⟨[(2,.v (.int .u64 (acc+m*128^i)))],h.set r (rdr rest)⟩) ⟨[(0,.ref r 0),(3,.v (.int .u64 acc)),(4,.v (.int .i64 i))],h⟩:=by
 induction k with
 |zero=>
  intro m acc i h r rest hik ha0 ha1 hm0 hm1 hs h0 hr;obtain rfl:i=9:=by omega
  have e9:(128:Int)^9=9223372036854775808:=by decide
  have e1:(128:Int)^(0+1)=128:=by decide
  rw[e9]at hs ha1;have hm2:m%128=m:=by omega
  refine awp_loop_end (b119 (c:=m) (xs:=rest) hr ⟨hm0,by omega⟩ (by omega) (by omega) (by have:=h0 (by omega);omega) ⟨ha0,by rw[e9];exact ha1⟩ (by rw[hm2,e9];exact hs) (λ_=>⟨rfl,rfl⟩) (λh=>by omega))
 |succ k ih=>
  intro m acc i h r rest hik ha0 ha1 hm0 hm1 hs h0 hr;have hp:(0:Int) <128^i:=Int.pow_pos (by decide);by_cases hl:m <128
  ·have hm2:m%128=m:=by omega
   rw[show uvarF (k+1) m=[m] by simp[uvarF,hl]]at hr;refine awp_loop_end (b119 (c:=m) (xs:=rest) hr ⟨hm0,by omega⟩ (by omega) (by omega) (λhh=>by have:=h0 hh.1;omega) ⟨ha0,ha1⟩ (by rw[hm2];exact hs) (λ_=>⟨rfl,rfl⟩) (λh=>by omega))
  ·rw[show uvarF (k+1) m=(128+m%128)::uvarF k (m/128) by simp[uvarF,hl]]at hr;have hc:(128+m%128)%128=m%128:=by omega
   have hp1:(128:Int)^(i+1)=128^i*128:=Int.pow_succ ..;have hle:(m%128)*128^i≤m*128^i:=Int.mul_le_mul_of_nonneg_right (by omega) (Int.le_of_lt hp);have hsum:acc+(m%128)*128^i+(m/128)*128^(i+1)=acc+m*128^i:=by
    have:m*128^i=(m%128+128*(m/128))*128^i:=by rw[Int.emod_add_mul_ediv]
    rw[this,hp1,Int.add_mul];have:m/128*(128^i*128)=128*(m/128)*128^i:=by
     rw[Int.mul_comm (128^i) 128,←Int.mul_assoc,Int.mul_comm (m/128) 128]
    omega
   have hlt:acc+(m%128)*128^i <128^(i+1):=by
    have:(m%128)*128^i≤127*128^i:=Int.mul_le_mul_of_nonneg_right (by omega) (Int.le_of_lt hp);omega
   have hm1':m/128 <128^(k+1):=Int.ediv_lt_of_lt_mul (by decide) (by rw[←Int.pow_succ];exact hm1);have h2:=ih (m/128) (acc+(m%128)*128^i) (i+1) (h.set r (rdr (uvarF k (m/128)++rest))) r rest (by omega) (Int.add_nonneg ha0 (Int.mul_nonneg (by omega) (Int.le_of_lt hp))) hlt (by omega) hm1' (by rw[hsum];exact hs) (by omega) (get_set hr);rw[hsum,List.set_set]at h2;refine awp_loop_one (s1:=⟨[(0,.ref r 0),(3,.v (.int .u64 (acc+(m%128)*128^i))),(4,.v (.int .i64 ((i+1:Nat):Int)))],h.set r (rdr (uvarF k (m/128)++rest))⟩) ?_ h2;refine b119 (c:=128+m%128) hr ⟨by omega,by omega⟩ (by omega) (by omega) (by omega) ⟨ha0,ha1⟩ (by rw[hc];omega) (λh=>by omega) (λ_=>?_);rw[hc,Int.natCast_add];rfl
theorem p119 (n:Int) (hn:u64 n) (h:List Row) (r:Nat) (rest:List Int) (hr:h[r]?=some (rdr (uvar n++rest))):FSp Tryz.prog GLx 49 [.ref r 0] h [.v (.int .u64 n)] (h.set r (rdr rest)):=by
 refine fsp_of_awp (Zkk 49) rfl ?_;unfold u64 at hn;have e10:(128:Int)^(9+1)=1180591620717411303424:=by decide
 have hw:=l119 9 n 0 0 h r rest (by omega) (by omega) (by decide) hn.1 (by omega) (by simpa using hn.2) (by omega) hr;simp only[Zga 49,awp_seq,awp_block,awp_reg,Zge 49 0,Zge 49 1,Zge 49 2,entryD];simp;simp at hw;refine awp_to hw ?_;simp[Zgr 49]
def rdE (xs:List Int) (e:Int):Row:= .cells [.v (nums .u8 xs),.v (.int .i64 e)]
theorem rdE_0 (xs:List Int):rdE xs 0=rdr xs:=rfl
abbrev RS:=List Int×Int
def RS.row (s:RS):Row:=rdE s.1 s.2
def rNext:RS→Int×RS
 |([],e)=>(0,[],if e=0 then 3 else e)
 |(c::xs,e)=>if e=0 then (c,xs,0) else (0,c::xs,e)
theorem p207 (s:RS) (e:Int) (h:List Row) (r:Nat) (hr:h[r]?=some s.row):FSp Tryz.prog GLx 93 [.ref r 0,.v (.int .i64 e)] h [] (h.set r (rdE s.1 (if s.2=0 then e else s.2))):=by
 refine fsp_of_awp (Zkk 93) rfl ?_;obtain⟨xs,e0⟩:=s;simp only[RS.row,rdE]at hr ⊢;by_cases h0:e0=0
 ·simp[Zga 93,awp,Zge 93 0,Zge 93 1,Zgr 93,entryD,hr,h0,putL]
 ·have:h.set r (.cells [.v (nums .u8 xs),.v (.int .i64 e0)])=h:=by
   obtain⟨g1,g2⟩:=List.getElem?_eq_some_iff.1 hr;rw[←g2,List.set_getElem_self]
  simp[Zga 93,awp,Zge 93 0,Zge 93 1,Zgr 93,entryD,hr,h0,this]
theorem set_idem {h:List Row} {r:Nat} {x:Row} (hr:h[r]?=some x):h.set r x=h:=by
 obtain⟨g1,g2⟩:=List.getElem?_eq_some_iff.1 hr;rw[←g2,List.set_getElem_self]
theorem p203e (s:RS) (h:List Row) (r:Nat) (hr:h[r]?=some s.row):FSp Tryz.prog GLx 91 [.ref r 0] h [.v (.int .u8 (rNext s).1)] (h.set r (rNext s).2.row):=by
 obtain⟨xs,e⟩:=s;cases xs with
 |nil=>
  refine fsp_of_awp (Zkk 91) rfl ?_;have q:=p207 ([],e) 3 h r hr;obtain⟨e',he'⟩:∃e',(if e=0 then 3 else e)=e':=⟨_,rfl⟩;have hne:e'≠0:=by rw[←he'];split<;>omega
  simp only[he']at q;simp only[RS.row,rdE,nums,List.map_nil,rNext,he']at hr q ⊢;simp only[Zga 91,awp_seq,awp_reg,awp_cond,Zge 91 0,Zge 91 1,entryD];simp[hr];simp only[Zge 91 2];simp;refine⟨_,_,q,?_⟩;simp only[Zge 91 3];simp[get_set hr,hne,awp_ret,Zge 91 4,Zgr 91]
 |cons c xs=>
  by_cases h0:e=0
  ·subst h0;simpa[rNext,RS.row,rdE_0]using p203 c xs h r hr
  ·refine fsp_of_awp (Zkk 91) rfl ?_;have hs:=set_idem hr;simp only[rNext,if_neg h0];rw[hs];simp only[RS.row,rdE,nums]at hr;have h1:¬((xs.length:Int)+1=0):=by omega
   simp only[Zga 91,awp_seq,awp_reg,awp_cond,Zge 91 0,Zge 91 1,entryD];simp[hr,h1,awp_skip];simp only[Zge 91 3];simp[hr,h0,awp_ret,Zge 91 4,Zgr 91]
theorem e119 {Q:AExit→St→Prop} {d3 d4:D} {h:List Row} {r:Nat} {xs:List Int} {e:Int} (hr:h[r]?=some (rdE xs e)) (he:e≠0) (hq:∀en,find en 0= .ref r 0→Q (.exit 0) ⟨en,h⟩):
  awp Tryz.prog GLx (lG 49 0) Q ⟨[(0,.ref r 0),(3,d3),(4,d4)],h⟩:=by
 simp only[Zgl 49 0,awp_seq,awp_reg,awp_block,awp_cond,Zge 49 3];simp[hr,rdE,he,awp_exit];exact hq _ rfl
theorem f119 {Q:AExit→St→Prop} {c acc:Int} {i:Nat} {h:List Row} {r:Nat} {xs:List Int} (hr:h[r]?=some (rdr (c::xs))) (hi:i≤9) (hbad:(i=9∧1 <c)∨(0 <i∧c=0))
  (hgo:∀n,Q .normal ⟨[(0,.ref r 0),(3,.v (.int .u64 n)),(4,.v (.int .i64 (i+1)))],h.set r (rdE xs 2)⟩):
  awp Tryz.prog GLx (lG 49 0) Q ⟨[(0,.ref r 0),(3,.v (.int .u64 acc)),(4,.v (.int .i64 i))],h⟩:=by
 have a6:IntKind.i64.wrap ((i:Int)+1)=i+1:=wrap_i64 (by omega) (by omega);have a3:IntKind.i64.wrap (7*(i:Int))=7*i:=wrap_i64 (by omega) (by omega);have k3:0≤7*(i:Int):=by omega
 have q:=p207 (xs,0) 2 (h.set r (rdr xs)) r (by rw[get_set hr];rfl);simp only[if_true,List.set_set]at q;simp only[Zgl 49 0,awp_seq,awp_reg,awp_block,awp_cond,Zge 49 3];simp[hr,rdr,nums,awp_skip];simp only[Zge 49 5];simp;refine⟨_,_,(p203 c xs h r hr),?_⟩;have tail:∀x:D,awpOps Tryz.prog GLx (oG 49 7) (λs'=>awpOps Tryz.prog GLx (oG 49 8) (λs'=>awpOps Tryz.prog GLx (oG 49 9) (λs'=>match (find s'.e 47).copy with
   | .v (.bool t)=>if t=true then awpOps Tryz.prog GLx (oG 49 10) (λs'=>Q .ret ⟨[(2,find s'.e 2)],s'.h⟩) ⟨[(0,find s'.e 0),(3,find s'.e 3),(4,find s'.e 4),(47,find s'.e 47)],s'.h⟩
    else awpOps Tryz.prog GLx (oG 49 4) (λs'=>Q .normal ⟨[(0,find s'.e 0),(3,find s'.e 3),(4,find s'.e 4)],s'.h⟩) ⟨[(0,find s'.e 0),(3,find s'.e 3),(4,find s'.e 4),(47,find s'.e 47)],s'.h⟩
   |_=>False) ⟨[(0,find s'.e 0),(3,find s'.e 3),(4,find s'.e 4),(5,find s'.e 5)],s'.h⟩) ⟨[(0,find s'.e 0),(3,find s'.e 3),(4,find s'.e 4),(5,find s'.e 5)],s'.h⟩) ⟨[(0,.ref r 0),(3,.v (.int .u64 acc)),(4,.v (.int .i64 i)),(5,.v (.int .u8 c)),(28,x)],h.set r (rdr xs)⟩:=by
  intro x;simp only[Zge 49 7];simp;refine⟨_,_,q,?_⟩;simp only[Zge 49 8];simp[a3,k3];simp only[Zge 49 9];by_cases hl:c <128
  ·simp[hl,get_set hr,rdE,nums];simp only[Zge 49 4];simp[a6];exact hgo _
  ·simp[hl,rdE,nums];simp only[Zge 49 4];simp[a6];exact hgo _
 simp only[Zge 49 6];by_cases h9:i=9∧1 <c
 ·obtain⟨rfl,h1⟩:=h9;simp[h1];exact tail _
 ·obtain⟨h0,rfl⟩:0 <i∧c=0:=hbad.resolve_left h9;by_cases h8:((i:Int)=9)
  ·have k1:((i:Int)=9)=True:=eq_true h8;simp[k1,h0];exact tail _
  ·simp[h8,h0];exact tail _
theorem g119 {Q:AExit→St→Prop} {acc:Int} {i:Nat} {h:List Row} {r:Nat} (hr:h[r]?=some (rdr [])) (hi:i≤9)
  (hgo:∀n,Q .normal ⟨[(0,.ref r 0),(3,.v (.int .u64 n)),(4,.v (.int .i64 (i+1)))],h.set r (rdE [] 3)⟩):
  awp Tryz.prog GLx (lG 49 0) Q ⟨[(0,.ref r 0),(3,.v (.int .u64 acc)),(4,.v (.int .i64 i))],h⟩:=by
 have a6:IntKind.i64.wrap ((i:Int)+1)=i+1:=wrap_i64 (by omega) (by omega);have a3:IntKind.i64.wrap (7*(i:Int))=7*i:=wrap_i64 (by omega) (by omega);have k3:0≤7*(i:Int):=by omega
 have q:=p207 ([],3) 2 (h.set r (rdE [] 3)) r (by rw[get_set hr];rfl);have q0:=p203e ([],0) h r hr;simp only[List.set_set,rNext,RS.row,if_true,Int.reduceEq,if_false]at q q0;simp only[Zgl 49 0,awp_seq,awp_reg,awp_block,awp_cond,Zge 49 3];simp[hr,rdr,nums,awp_skip];simp only[Zge 49 5];simp;refine⟨_,_,q0,?_⟩;have tail:∀T:Env,awpOps Tryz.prog GLx (oG 49 8) (λs'=>awpOps Tryz.prog GLx (oG 49 9) (λs'=>match (find s'.e 47).copy with
   | .v (.bool t)=>if t=true then awpOps Tryz.prog GLx (oG 49 10) (λs'=>Q .ret ⟨[(2,find s'.e 2)],s'.h⟩) ⟨[(0,find s'.e 0),(3,find s'.e 3),(4,find s'.e 4),(47,find s'.e 47)],s'.h⟩
    else awpOps Tryz.prog GLx (oG 49 4) (λs'=>Q .normal ⟨[(0,find s'.e 0),(3,find s'.e 3),(4,find s'.e 4)],s'.h⟩) ⟨[(0,find s'.e 0),(3,find s'.e 3),(4,find s'.e 4),(47,find s'.e 47)],s'.h⟩
   |_=>False) ⟨[(0,find s'.e 0),(3,find s'.e 3),(4,find s'.e 4),(5,find s'.e 5)],s'.h⟩) ⟨(0,.ref r 0)::(3,.v (.int .u64 acc))::(4,.v (.int .i64 i))::(5,.v (.int .u8 0))::T,h.set r (rdE [] 3)⟩:=by
  intro T;simp only[Zge 49 8];simp[a3,k3];simp only[Zge 49 9];simp[get_set hr,rdE];simp only[Zge 49 4];simp[a6];exact hgo _
 simp only[Zge 49 6];by_cases h0:0 <i
 ·by_cases h8:((i:Int)=9)
  ·have k1:((i:Int)=9)=True:=eq_true h8;simp[k1,h0];simp only[Zge 49 7];simp;refine⟨_,_,q,?_⟩;exact tail []
  ·simp[h8,h0];simp only[Zge 49 7];simp;refine⟨_,_,q,?_⟩;exact tail []
 ·obtain rfl:i=0:=by omega
  simp;exact tail [(28,_)]
def rUF:Nat→Int→List Int→Int×RS
 |_,_,[]=>(0,[],3)
 |0,acc,c::xs=>if 1 <c∨c=0 then (0,xs,2) else (acc+c*128^9,xs,0)
 |k+1,acc,c::xs=>if k <8∧c=0 then (0,xs,2) else if c <128 then (acc+c*128^(8-k),xs,0) else rUF k (acc+(c%128)*128^(8-k)) xs
def rUint (s:RS):Int×RS:=if s.2=0 then rUF 9 0 s.1 else (0,s)
theorem awp_loop_two {P:Program} {GL:Globals} {c:AC} {Q:AExit→St→Prop} {s:St} {S:Int→St} (h:awp P GL c (λe s'=>match e with| .normal=>∃n,s'=S n|e=>Q e s') s)
  (h2:∀n,awp P GL c (λe s'=>match e with| .normal=>False|e=>Q e s') (S n)):awp P GL (.loop c) Q s:=by
 refine⟨λm s'=>(m=1∧s'=s)∨(m=0∧∃n,s'=S n),⟨1,.inl ⟨rfl,rfl⟩⟩,?_⟩;rintro m s' (⟨rfl,rfl⟩|⟨rfl,n,rfl⟩)
 ·refine awp_mono _ ?_ h;intro e s2 hh;cases e with
  |normal=>exact⟨0,by omega,.inr ⟨rfl,hh⟩⟩
  |exit i=>exact hh
  |ret=>exact hh
 ·refine awp_mono _ ?_ (h2 n);intro e s2 hh;cases e with
  |normal=>exact hh.elim
  |exit i=>exact hh
  |ret=>exact hh
def E119 (h:List Row) (r:Nat) (R:Int×RS):AExit→St→Prop:=λe s=>s.h=h.set r R.2.row∧((e= .ret∧R.2.2=0∧find s.e 2= .v (.int .u64 R.1))∨(e= .exit 0∧R.2.2≠0∧R.1=0))
theorem bad119 {h:List Row} {r:Nat} {xs:List Int} {e:Int} {s0:Row} (hr:h[r]?=some s0) (he:e≠0) {s:St} (j:Int)
  (hb:∀Q:AExit→St→Prop,(∀n,Q .normal ⟨[(0,.ref r 0),(3,.v (.int .u64 n)),(4,.v (.int .i64 j))],h.set r (rdE xs e)⟩)→awp Tryz.prog GLx (lG 49 0) Q s):
  awp Tryz.prog GLx (.loop (lG 49 0)) (E119 h r (0,xs,e)) s:=by
 refine awp_loop_two (S:=λn=>⟨[(0,.ref r 0),(3,.v (.int .u64 n)),(4,.v (.int .i64 j))],h.set r (rdE xs e)⟩) (hb _ λn=>⟨n,rfl⟩) λn=>?_;exact e119 (get_set hr) he λen _=>⟨rfl,.inr ⟨rfl,he,rfl⟩⟩
theorem m119 (k:Nat):∀(acc:Int) (i:Nat) (h:List Row) (r:Nat) (xs:List Int),i+k=9→0≤acc→acc <128^i→(∀x∈xs,0≤x∧x <256)→h[r]?=some (rdr xs)→
  awp Tryz.prog GLx (.loop (lG 49 0)) (E119 h r (rUF k acc xs)) ⟨[(0,.ref r 0),(3,.v (.int .u64 acc)),(4,.v (.int .i64 i))],h⟩:=by
 induction k with
 |zero=>
  intro acc i h r xs hik h0 h1 hB hr;obtain rfl:i=9:=by omega
  cases xs with
  |nil=>exact bad119 hr (by decide) _ λQ hQ=>g119 hr (by omega) hQ
  |cons c xs=>
   obtain⟨c0,c1⟩:=hB c (by simp);rw[rUF];have e9:(128:Int)^9=9223372036854775808:=by decide
   by_cases hb:1 <c∨c=0
   ·rw[if_pos hb];exact bad119 hr (by decide) _ λQ hQ=>f119 hr (by omega) (by omega) hQ
   ·rw[if_neg hb];obtain rfl:c=1:=by omega
    rw[e9]at h1;refine awp_loop_end (b119 (c:=1) (xs:=xs) hr ⟨c0,c1⟩ (by omega) (by omega) (by omega) ⟨h0,by rw[e9];exact h1⟩ (by rw[e9];omega) (λ_=>⟨rfl,.inl ⟨rfl,rfl,rfl⟩⟩) (λh=>by omega))
 |succ k ih=>
  intro acc i h r xs hik h0 h1 hB hr;have h8:8-k=i:=by omega
  cases xs with
  |nil=>exact bad119 hr (by decide) _ λQ hQ=>g119 hr (by omega) hQ
  |cons c xs=>
   obtain⟨c0,c1⟩:=hB c (by simp);have hp:(0:Int) <128^i:=Int.pow_pos (by decide);have hp1:(128:Int)^(i+1)=128^i*128:=Int.pow_succ ..;have hle:(c%128)*128^i≤127*128^i:=Int.mul_le_mul_of_nonneg_right (by omega) (Int.le_of_lt hp);have hge:0≤(c%128)*128^i:=Int.mul_nonneg (by omega) (Int.le_of_lt hp);have hlt:acc+(c%128)*128^i <128^(i+1):=by omega
   have h18:(128:Int)^(i+1)≤128^9:=by
    have h2:=Int.ofNat_le.2 (Nat.pow_le_pow_right (n:=128) (by decide) (show i+1≤9 by omega));rw[Int.natCast_pow,Int.natCast_pow]at h2;exact h2
   have e9:(128:Int)^9=9223372036854775808:=by decide
   rw[rUF,h8];by_cases hb:k <8∧c=0
   ·rw[if_pos hb];exact bad119 hr (by decide) _ λQ hQ=>f119 hr (by omega) (by omega) hQ
   ·rw[if_neg hb];by_cases hc:c <128
    ·rw[if_pos hc];refine awp_loop_end (b119 (c:=c) (xs:=xs) hr ⟨c0,c1⟩ (by omega) (by omega) (by omega) ⟨h0,h1⟩ (by omega) (λ_=>⟨rfl,.inl ⟨rfl,rfl,rfl⟩⟩) (λh=>by omega))
    ·rw[if_neg hc];have q:=ih (acc+(c%128)*128^i) (i+1) (h.set r (rdr xs)) r xs (by omega) (by omega) hlt (λx hx=>hB x (by simp[hx])) (get_set hr);refine awp_loop_one (s1:=⟨[(0,.ref r 0),(3,.v (.int .u64 (acc+(c%128)*128^i))),(4,.v (.int .i64 ((i+1:Nat):Int)))],h.set r (rdr xs)⟩) ?_ ?_
     ·exact b119 (c:=c) hr ⟨c0,c1⟩ (by omega) (by omega) (by omega) ⟨h0,h1⟩ (by omega) (λh=>by omega) (λ_=>by rw[Int.natCast_add];rfl)
     ·unfold E119 at q ⊢;rw[List.set_set]at q;exact q
theorem p119e (s:RS) (hB:∀x∈s.1,0≤x∧x <256) (h:List Row) (r:Nat) (hr:h[r]?=some s.row):FSp Tryz.prog GLx 49 [.ref r 0] h [.v (.int .u64 (rUint s).1)] (h.set r (rUint s).2.row):=by
 refine fsp_of_awp (Zkk 49) rfl ?_;obtain⟨xs,e⟩:=s;unfold rUint;simp only[Zga 49,awp_seq,awp_block,awp_reg,Zge 49 0,Zge 49 1,Zge 49 2,entryD];simp;by_cases h0:e=0
 ·subst h0;have q:=m119 9 0 0 h r xs (by omega) (by omega) (by decide) hB hr;simp at q;refine awp_mono _ ?_ q;rintro e ⟨se,sh⟩ ⟨hh,⟨rfl,he,hf⟩|⟨rfl,he,hz⟩⟩
  ·simp only at hh hf;simp[hh,hf,Zgr 49]
  ·simp only at hh;simp[hh,hz,awp_ret,Zge 49 11,Zgr 49]
 ·simp only[if_neg h0];refine awp_loop_end (e119 (xs:=xs) (e:=e) hr h0 λen _=>?_);simp[awp_ret,Zge 49 11,Zgr 49,RS.row];exact(set_idem hr).symm
theorem uvarF_pos:∀(k:Nat) (n:Int),1≤(uvarF k n).length
 |0,n=>by simp[uvarF]
 |k+1,n=>by
  simp only[uvarF];split<;>simp
theorem flat_encI_ge:∀l:List Int,l.length≤(l.flatMap encI).length
 |[]=>by simp
 |x::l=>by
  have:=uvarF_pos 9 (zigI x);have:=flat_encI_ge l;simp only[List.flatMap_cons,List.length_append,List.length_cons,encI,uvar]at *;omega
theorem p202 (xs:List Int) (h:List Row) (r:Nat) (rest:List Int) (hb:xs.length+rest.length≤2^44) (hr:h[r]?=some (rdr (encRaw xs++rest))):
  FSp Tryz.prog GLx 90 [.ref r 0,.meth 91 [.ref r 0]] h [.own 5 1 (xs.map (.int .u8))] (h.set r (rdr rest)):=by
 refine fsp_of_awp (Zkk 90) rfl ?_;have w1:∀n:Int,0≤n→n≤2^50→IntKind.u64.wrap n=n:=λn h0 hn=>wrap_u64 (by omega) (by omega);simp only[Zga 90,awp_seq,awp_block,awp_reg,Zge 90 0,Zge 90 1,entryD];simp;refine⟨_,_,(p119 xs.length ⟨by omega,by omega⟩ h r (xs++rest) (by simpa[encRaw,encInts]using hr)),?_⟩;simp only[awp_reg,awp_cond,Zge 90 2];have hlen:xs.length≤(xs).length:=by exact Nat.le_refl _
 have hlen2:(xs).length≤10*xs.length:=by omega
 have w2:IntKind.u64.wrap ((xs).length+rest.length:Int)=(xs).length+rest.length:=w1 _ (by omega) (by omega);have hlt:¬(((xs).length+rest.length:Int) <xs.length):=by omega
 generalize hX:xs=X at w2 hlt;simp[get_set hr,rdr,nums,w2,hlt,awp_skip];subst hX;simp only[Zge 90 4,Zge 90 5];simp;refine awp_loop_nat0 xs.length (λk=>⟨[(0,.ref r 0),(1,.meth 91 [.ref r 0]),(5,.v (.int .u64 xs.length)),(6,.own 5 1 ((xs.take k).map (.int .u8))),(7,.v (.int .u64 k))],h.set r (rdr ((xs.drop k)++rest))⟩) (by simp[rdr,nums]) ?_;intro k hk;simp only[Zgl 90 0,awp_seq,awp_reg,awp_block,awp_cond,Zge 90 6];by_cases h1:k <xs.length
 ·have hd:xs.drop k=xs[k]::xs.drop (k+1):=List.drop_eq_getElem_cons h1;simp[get_set hr,rdr,h1,awp_skip];simp only[Zge 90 8];simp;refine⟨_,_,(p203 xs[k] (xs.drop (k+1)++rest) _ r (by rw[get_set hr,hd];rfl)),?_⟩;have hroom:roomy (k+1) 1=true:=by simp[roomy];omega
  have ht:min k xs.length=k:=by omega
  simp[ht,hroom];simp only[Zge 90 7];have w3:IntKind.u64.wrap ((k:Int)+1)=k+1:=w1 _ (by omega) (by omega);have htk:(xs.map (V.int .u8)).take (k+1)=(xs.map (V.int .u8)).take k++[V.int .u8 xs[k]]:=by
   rw[←List.map_take,←List.map_take,List.take_succ_eq_append_getElem h1,List.map_append];rfl
  simp[w3,rdr,htk]
 ·have:k=xs.length:=by omega
  subst this;simp[rdr,awp_exit];simp only[Zge 90 9];simp[get_set hr];simp only[Zge 90 11];simp[Zgr 90,awp_ret,nums]
theorem u64_0:u64 0:=by unfold u64;omega
theorem rUF_suf:∀(k:Nat) (acc:Int) (xs:List Int),(rUF k acc xs).2.1 <:+ xs
 |k,acc,[]=>by cases k<;>exact List.suffix_refl _
 |0,acc,c::xs=>by
  rw[rUF];split<;>exact List.suffix_cons _ _
 |k+1,acc,c::xs=>by
  rw[rUF];split
  ·exact List.suffix_cons _ _
  ·split
   ·exact List.suffix_cons _ _
   ·exact(rUF_suf k _ xs).trans (List.suffix_cons _ _)
theorem rUint_suf (s:RS):(rUint s).2.1 <:+ s.1:=by
 unfold rUint;split
 ·exact rUF_suf _ _ _
 ·exact List.suffix_refl _
theorem rUF_u64:∀(k:Nat) (acc:Int) (xs:List Int),k≤9→0≤acc→acc <128^(9-k)→(∀x∈xs,0≤x∧x <256)→u64 (rUF k acc xs).1
 |k,acc,[],_,_,_,_=>by cases k<;>exact u64_0
 |0,acc,c::xs,_,h0,h1,hB=>by
  obtain⟨c0,c1⟩:=hB c (by simp);have e9:(128:Int)^9=9223372036854775808:=by decide
  simp only[Nat.sub_zero,e9]at h1;rw[rUF];split
  ·exact u64_0
  ·obtain rfl:c=1:=by omega
   rw[e9];unfold u64;omega
 |k+1,acc,c::xs,hk,h0,h1,hB=>by
  obtain⟨c0,c1⟩:=hB c (by simp);obtain⟨i,hi⟩:∃i,8-k=i:=⟨_,rfl⟩;have hi2:9-(k+1)=i:=by omega
  have hi3:9-k=i+1:=by omega
  rw[hi2]at h1;have hp:(0:Int) <128^i:=Int.pow_pos (by decide);have hp1:(128:Int)^(i+1)=128^i*128:=Int.pow_succ ..;have hle:(c%128)*128^i≤127*128^i:=Int.mul_le_mul_of_nonneg_right (by omega) (Int.le_of_lt hp);have hge:0≤(c%128)*128^i:=Int.mul_nonneg (by omega) (Int.le_of_lt hp);have hlt:acc+(c%128)*128^i <128^(i+1):=by omega
  have h18:(128:Int)^(i+1)≤128^9:=by
   have h2:=Int.ofNat_le.2 (Nat.pow_le_pow_right (n:=128) (by decide) (show i+1≤9 by omega));rw[Int.natCast_pow,Int.natCast_pow]at h2;exact h2
  have e9:(128:Int)^9=9223372036854775808:=by decide
  rw[rUF,hi];split
  ·exact u64_0
  ·split
   ·rename_i hc;have hm:c%128=c:=by omega
    rw[hm]at hge hlt;unfold u64;omega
   ·exact rUF_u64 k _ xs (by omega) (by omega) (by rw[hi3];exact hlt) λx hx=>hB x (by simp[hx])
theorem rUint_u64 (s:RS) (hB:∀x∈s.1,0≤x∧x <256):u64 (rUint s).1:=by
 unfold rUint;split
 ·exact rUF_u64 9 0 s.1 (by omega) (by omega) (by decide) hB
 ·exact u64_0
theorem rUF_enc:∀(k:Nat) (acc:Int) (xs:List Int),k≤9→(∀x∈xs,0≤x∧x <256)→(rUF k acc xs).2.2=0→
  ∃m,0≤m∧m <128^(k+1)∧(k <9→0 <m)∧xs=uvarF k m++(rUF k acc xs).2.1∧(rUF k acc xs).1=acc+m*128^(9-k)
 |k,acc,[],_,_,h=>by cases k<;>exact absurd h (by show ¬((3:Int)=0);decide)
 |0,acc,c::xs,_,hB,h=>by
  obtain⟨c0,c1⟩:=hB c (by simp);rw[rUF]at h ⊢;by_cases hb:1 <c∨c=0
  ·rw[if_pos hb]at h;exact absurd h (by show ¬((2:Int)=0);decide)
  ·rw[if_neg hb];obtain rfl:c=1:=by omega
   exact⟨1,by omega,by decide,λ_=>by omega,rfl,rfl⟩
 |k+1,acc,c::xs,hk,hB,h=>by
  obtain⟨c0,c1⟩:=hB c (by simp);have hi2:9-(k+1)=8-k:=by omega
  have hp:(128:Int)≤128^(k+1+1):=by
   have h2:=Int.ofNat_le.2 (Nat.pow_le_pow_right (n:=128) (by decide) (show 1≤k+1+1 by omega));rw[Int.natCast_pow,Int.natCast_pow]at h2;exact h2
  rw[rUF]at h ⊢;rw[hi2];by_cases hb:k <8∧c=0
  ·rw[if_pos hb]at h;exact absurd h (by show ¬((2:Int)=0);decide)
  ·rw[if_neg hb]at h ⊢;by_cases hc:c <128
   ·rw[if_pos hc];refine⟨c,c0,by omega,λ_=>by omega,?_,rfl⟩;simp[uvarF,hc]
   ·rw[if_neg hc]at h ⊢;obtain⟨m,m0,m1,m2,m3,m4⟩:=rUF_enc k _ xs (by omega) (λx hx=>hB x (by simp[hx])) h;have hm:=m2 (by omega);have e1:(c%128+128*m)/128=m:=by omega
    have e2:128+(c%128+128*m)%128=c:=by omega
    have hp1:(128:Int)^(k+1+1)=128^(k+1)*128:=Int.pow_succ ..;have hp2:(128:Int)^(9-k)=128^(8-k)*128:=by rw[show 9-k=(8-k)+1 by omega];exact Int.pow_succ ..
    refine⟨c%128+128*m,by omega,by omega,λ_=>by omega,?_,?_⟩
    ·rw[uvarF,if_neg (by omega),e1,e2,List.cons_append,←m3]
    ·rw[m4,hp2,Int.add_mul,←Int.add_assoc,Int.mul_comm (128^(8-k)) 128,←Int.mul_assoc,Int.mul_comm m 128]
theorem rUint_enc (s:RS) (hB:∀x∈s.1,0≤x∧x <256) (h:(rUint s).2.2=0):s.2=0∧s.1=uvar (rUint s).1++(rUint s).2.1:=by
 unfold rUint at h ⊢;by_cases h0:s.2=0
 ·rw[if_pos h0]at h ⊢;obtain⟨m,-,-,-,m3,m4⟩:=rUF_enc 9 0 s.1 (by omega) hB h;refine⟨h0,?_⟩;rw[m4];simpa[uvar]using m3
 ·rw[if_neg h0]at h;exact absurd h h0
def zagI (n:Int):Int:=if n%2=0 then n/2 else -(n/2)-1
theorem zag_i64 {n:Int} (h:u64 n):i64 (zagI n):=by
 unfold u64 at h;unfold zagI i64;split<;>omega
theorem zig_zag {n:Int} (h:u64 n):zigI (zagI n)=n:=by
 unfold u64 at h;unfold zagI zigI;split<;>split<;>omega
def rInt (s:RS):Int×RS:=(zagI (rUint s).1,(rUint s).2)
theorem rInt_i64 (s:RS) (hB:∀x∈s.1,0≤x∧x <256):i64 (rInt s).1:=zag_i64 (rUint_u64 s hB)
theorem p45e (s:RS) (hB:∀x∈s.1,0≤x∧x <256) (h:List Row) (r:Nat) (hr:h[r]?=some s.row):FSp Tryz.prog GLx 13 [.ref r 0] h [.v (.int .i64 (rInt s).1)] (h.set r (rInt s).2.row):=by
 refine fsp_of_awp (Zkk 13) rfl ?_;have hu:=rUint_u64 s hB;have q1:=p119e s hB h r hr;have q2:=p118 (zagI (rUint s).1) (zag_i64 hu);rw[zig_zag hu]at q2;unfold rInt;generalize (rUint s).1=n at*;generalize (rUint s).2=s' at*;simp[Zga 13,awp,Zge 13 0,Zge 13 1,Zgr 13,entryD];refine⟨_,_,q1,?_⟩;simp;refine⟨_,q2.fsp _,?_⟩;simp
def rEnd (s:RS):Int:=if s.2=0∧0 <s.1.length then 2 else s.2
theorem p116e (s:RS) (h:List Row) (r:Nat) (hr:h[r]?=some s.row):FSp Tryz.prog GLx 46 [.ref r 0] h [.v (.int .i64 (rEnd s))] h:=by
 refine fsp_of_awp (Zkk 46) rfl ?_;obtain⟨xs,e⟩:=s;simp only[RS.row,rdE,nums]at hr;unfold rEnd;by_cases h0:e=0
 ·subst h0;cases xs with
  |nil=>simp[Zga 46,awp,Zge 46 0,Zge 46 1,Zge 46 2,Zge 46 3,Zgr 46,entryD,hr]
  |cons c xs=>
   have h1:(0:Int) <(xs.length:Int)+1:=by omega
   simp[Zga 46,awp,Zge 46 0,Zge 46 1,Zge 46 2,Zge 46 3,Zgr 46,entryD,hr,h1]
 ·simp[Zga 46,awp,Zge 46 0,Zge 46 1,Zge 46 2,Zge 46 3,Zgr 46,entryD,hr,h0]
def rRaw (s:RS):List Int×RS:=if (rUint s).2.2≠0 then ([],(rUint s).2) else if ((rUint s).2.1.length:Int) <(rUint s).1 then ([],((rUint s).2.1,3)) else ((rUint s).2.1.take (rUint s).1.toNat,((rUint s).2.1.drop (rUint s).1.toNat,0))
theorem rUint_err (s:RS):(rUint s).2.2≠0→(rUint s).1=0:=by
 have key:∀(k:Nat) (acc:Int) (xs:List Int),(rUF k acc xs).2.2≠0→(rUF k acc xs).1=0:=by
  intro k;induction k with
  |zero=>
   intro acc xs h;cases xs with
   |nil=>rfl
   |cons c xs=>rw[rUF]at h ⊢;split<;>simp_all
  |succ k ih=>
   intro acc xs h;cases xs with
   |nil=>rfl
   |cons c xs=>
    rw[rUF]at h ⊢;split
    ·rfl
    ·rename_i hb;rw[if_neg hb]at h;split
     ·rename_i hc;rw[if_pos hc]at h;exact absurd rfl h
     ·rename_i hc;rw[if_neg hc]at h;exact ih _ _ h
 intro h;unfold rUint at h ⊢;split
 ·rename_i h0;rw[if_pos h0]at h;exact key _ _ _ h
 ·rfl
theorem p202e (s:RS) (hB:∀x∈s.1,0≤x∧x <256) (hl:s.1.length≤2^44) (h:List Row) (r:Nat) (hr:h[r]?=some s.row):
  FSp Tryz.prog GLx 90 [.ref r 0,.meth 91 [.ref r 0]] h [.own 5 1 ((rRaw s).1.map (.int .u8))] (h.set r (rRaw s).2.row):=by
 have hu:=rUint_u64 s hB;have hsl:=(rUint_suf s).length_le;have q1:=p119e s hB h r hr;by_cases h1:(rUint s).2.2=0
 ·obtain⟨e0,e1⟩:=rUint_enc s hB h1;by_cases h2:((rUint s).2.1.length:Int) <(rUint s).1
  ·have hR:rRaw s=([],((rUint s).2.1,3)):=by unfold rRaw;rw[if_neg (by simpa using h1),if_pos h2]
   rw[hR];refine fsp_of_awp (Zkk 90) rfl ?_;generalize (rUint s).1=n at*;obtain⟨xs,e⟩:∃xs,(rUint s).2.1=xs:=⟨_,rfl⟩;have hs2:(rUint s).2=(xs,0):=Prod.ext e h1;rw[e]at hsl h2 ⊢;rw[hs2]at q1;have w1:IntKind.u64.wrap (xs.length:Int)=xs.length:=wrap_u64 (by omega) (by omega);have q3:=p207 (xs,0) 3 (h.set r (rdE xs 0)) r (by rw[get_set hr];rfl);simp only[if_true,List.set_set]at q3;simp only[RS.row]at q1 ⊢;simp only[Zga 90,awp_seq,awp_block,awp_reg,awp_cond,Zge 90 0,Zge 90 1,entryD];simp;refine⟨_,_,q1,?_⟩;simp only[Zge 90 2];simp[get_set hr,rdE,nums,w1,h2];simp only[Zge 90 3];simp;refine⟨_,_,q3,?_⟩;simp only[Zge 90 4,Zge 90 5];simp;refine awp_loop_end ?_;simp only[Zgl 90 0,awp_seq,awp_reg,awp_block,awp_cond,Zge 90 6];have hn0:0 <n:=by omega
   simp[hn0,get_set hr,rdE,awp_exit];simp only[Zge 90 9];simp[get_set hr,awp_ret,Zge 90 10,Zgr 90];rfl
  ·have hn:((rUint s).1.toNat:Int)=(rUint s).1:=Int.toNat_of_nonneg hu.1;have hR:rRaw s=((rUint s).2.1.take (rUint s).1.toNat,((rUint s).2.1.drop (rUint s).1.toNat,0)):=by unfold rRaw;rw[if_neg (by simpa using h1),if_neg h2]
   rw[hR];have hlen:((rUint s).2.1.take (rUint s).1.toNat).length=(rUint s).1.toNat:=by rw[List.length_take];omega
   refine p202 ((rUint s).2.1.take (rUint s).1.toNat) h r ((rUint s).2.1.drop (rUint s).1.toNat) (by rw[←List.length_append,List.take_append_drop];omega) ?_;rw[hr,encRaw,hlen,hn,List.append_assoc,List.take_append_drop,←e1,←rdE_0,←e0];rfl
 ·have hn:=rUint_err s h1;have hR:rRaw s=([],(rUint s).2):=by unfold rRaw;rw[if_pos h1]
  rw[hR];refine fsp_of_awp (Zkk 90) rfl ?_;rw[hn]at q1;obtain⟨xs,e,hs2⟩:∃xs e,(rUint s).2=(xs,e):=⟨_,_,rfl⟩;rw[hs2]at q1 h1 hsl ⊢;simp only at h1 hsl;have w1:IntKind.u64.wrap (xs.length:Int)=xs.length:=wrap_u64 (by omega) (by omega);have h3:¬((xs.length:Int) <0):=by omega
  simp only[RS.row]at q1 ⊢;simp only[Zga 90,awp_seq,awp_block,awp_reg,awp_cond,Zge 90 0,Zge 90 1,entryD];simp;refine⟨_,_,q1,?_⟩;simp only[Zge 90 2];simp[get_set hr,rdE,nums,w1,h3,awp_skip];simp only[Zge 90 4,Zge 90 5];simp;refine awp_loop_end ?_;simp only[Zgl 90 0,awp_seq,awp_reg,awp_block,awp_cond,Zge 90 6];simp[awp_exit];simp only[Zge 90 9];simp[get_set hr,h1,awp_ret,Zge 90 10,Zgr 90]
theorem p112e (s:RS) (hB:∀x∈s.1,0≤x∧x <256) (hl:s.1.length≤2^44) (h:List Row) (r:Nat) (hr:h[r]?=some s.row):FSp Tryz.prog GLx 44 [.ref r 0] h [.own 5 1 ((rRaw s).1.map (.int .u8))] (h.set r (rRaw s).2.row):=by
 refine fsp_of_awp (Zkk 44) rfl ?_;simp[Zga 44,awp,Zge 44 0,Zge 44 1,Zgr 44,entryD];refine⟨_,(p202e s hB hl h r hr),?_⟩;simp
def rMany:Nat→RS→List Int×RS
 |0,s=>([],s)
 |n+1,s=>if s.2≠0 then ([],s) else ((rInt s).1::(rMany n (rInt s).2).1,(rMany n (rInt s).2).2)
def rInts (s:RS):List Int×RS:=if (rUint s).2.2≠0 then ([],(rUint s).2) else if ((rUint s).2.1.length:Int) <(rUint s).1 then ([],((rUint s).2.1,3)) else
 if (rMany (rUint s).1.toNat (rUint s).2).2.2≠0 then ([],(rMany (rUint s).1.toNat (rUint s).2).2) else rMany (rUint s).1.toNat (rUint s).2
theorem l206e (N:Nat) (hN:N≤2^44):∀(n k:Nat) (acc:List Int) (s:RS) (h:List Row) (r:Nat),k+n=N→acc.length=k→(∀x∈s.1,0≤x∧x <256)→h[r]?=some s.row→
  awp Tryz.prog GLx (.loop (lG 92 0)) (λe st=>e= .exit 0∧find st.e 0= .ref r 0∧find st.e 6= .own 3 1 ((acc++(rMany n s).1).map (.int .i64))∧st.h=h.set r (rMany n s).2.row)
   ⟨[(0,.ref r 0),(1,.meth 13 [.ref r 0]),(5,.v (.int .u64 N)),(6,.own 3 1 (acc.map (.int .i64))),(7,.v (.int .u64 k))],h⟩:=by
 intro n;induction n with
 |zero=>
  intro k acc s h r hk ha hB hr;obtain rfl:k=N:=by omega
  refine awp_loop_end ?_;simp only[Zgl 92 0,awp_seq,awp_reg,awp_block,awp_cond,Zge 92 6];simp[awp_exit,rMany,set_idem hr]
 |succ n ih=>
  intro k acc s h r hk ha hB hr;obtain⟨xs,e⟩:=s;have hlt:(k:Int) <N:=by omega
  by_cases h0:e=0
  ·subst h0;have hR:rMany (n+1) (xs,0)=((rInt (xs,0)).1::(rMany n (rInt (xs,0)).2).1,(rMany n (rInt (xs,0)).2).2):=by rw[rMany];simp
   rw[hR];have q1:=p45e (xs,0) hB h r hr;have w3:IntKind.u64.wrap ((k:Int)+1)=((k+1:Nat):Int):=by rw[wrap_u64 (by omega) (by omega)];omega
   have hroom:roomy (acc.length+1) 8=true:=by simp[roomy];omega
   have hsuf:(rInt (xs,0)).2.1 <:+ xs:=rUint_suf (xs,0);have q:=ih (k+1) (acc++[(rInt (xs,0)).1]) (rInt (xs,0)).2 (h.set r (rInt (xs,0)).2.row) r (by omega) (by simp[ha]) (λx hx=>hB x (hsuf.subset hx)) (get_set hr);rw[List.set_set]at q;generalize (rInt (xs,0)).1=v at*;generalize (rInt (xs,0)).2=s' at*;refine awp_loop_one (s1:=⟨[(0,.ref r 0),(1,.meth 13 [.ref r 0]),(5,.v (.int .u64 N)),(6,.own 3 1 ((acc++[v]).map (.int .i64))),(7,.v (.int .u64 (k+1:Nat)))],h.set r s'.row⟩) ?_ (by simpa using q);simp only[Zgl 92 0,awp_seq,awp_reg,awp_block,awp_cond,Zge 92 6];simp only[RS.row,rdE]at hr;simp[hlt,hr,awp_skip];simp only[Zge 92 8];simp;refine⟨_,_,q1,?_⟩;simp[hroom,Zge 92 7,w3]
  ·have hR:rMany (n+1) (xs,e)=([],(xs,e)):=by rw[rMany,if_pos h0]
   rw[hR,set_idem hr];simp only[RS.row,rdE]at hr;refine awp_loop_end ?_;simp only[Zgl 92 0,awp_seq,awp_reg,awp_block,awp_cond,Zge 92 6];simp[hlt,hr,h0,awp_exit]
theorem p206e (s:RS) (hB:∀x∈s.1,0≤x∧x <256) (hl:s.1.length≤2^44) (h:List Row) (r:Nat) (hr:h[r]?=some s.row):
  FSp Tryz.prog GLx 92 [.ref r 0,.meth 13 [.ref r 0]] h [.own 3 1 ((rInts s).1.map (.int .i64))] (h.set r (rInts s).2.row):=by
 have hu:=rUint_u64 s hB;have hsuf:=rUint_suf s;have hsl:=hsuf.length_le;have q1:=p119e s hB h r hr;refine fsp_of_awp (Zkk 92) rfl ?_;obtain⟨G,hG⟩:∃G,rInts s=G:=⟨_,rfl⟩;rw[hG];unfold rInts at hG;have hz:=rUint_err s;generalize (rUint s).1=n at*;obtain⟨xs,e,hs2⟩:∃xs e,(rUint s).2=(xs,e):=⟨_,_,rfl⟩;rw[hs2]at q1 hsl hsuf hG hz;simp only at hsl hsuf hG hz;have hBx:∀x∈xs,0≤x∧x <256:=λx hx=>hB x (hsuf.subset hx);have w1:IntKind.u64.wrap (xs.length:Int)=xs.length:=wrap_u64 (by omega) (by omega);have q3:=p207 (xs,e) 3 (h.set r (rdE xs e)) r (by rw[get_set hr];rfl);simp only[List.set_set]at q3;simp only[RS.row]at q1;simp only[Zga 92,awp_seq,awp_block,awp_reg,awp_cond,Zge 92 0,Zge 92 1,entryD];simp;refine⟨_,_,q1,?_⟩;simp only[Zge 92 2];by_cases h2:(xs.length:Int) <n
 ·have he:e=0:=by
   by_cases he:e=0
   ·exact he
   ·have:=hz he;omega
  subst he;simp[h2]at hG;subst hG;simp only[if_true]at q3;simp[get_set hr,rdE,nums,w1,h2];simp only[Zge 92 3];simp;refine⟨_,_,q3,?_⟩;simp only[Zge 92 4,Zge 92 5];simp;refine awp_loop_end ?_;simp only[Zgl 92 0,awp_seq,awp_reg,awp_block,awp_cond,Zge 92 6];have hn0:0 <n:=by omega
  simp[hn0,get_set hr,rdE,awp_exit];simp only[Zge 92 9];simp[get_set hr,awp_ret,Zge 92 10,Zgr 92,RS.row,rdE]
 ·have hn:(n.toNat:Int)=n:=Int.toNat_of_nonneg hu.1;have q:=l206e n.toNat (by omega) n.toNat 0 [] (xs,e) (h.set r (rdE xs e)) r (by omega) rfl hBx (by rw[get_set hr];rfl);rw[List.set_set,hn]at q;simp[get_set hr,rdE,nums,w1,h2,awp_skip];simp only[Zge 92 4,Zge 92 5];simp;simp[rdE,nums]at q;refine awp_mono _ ?_ q;rintro ex ⟨se,sh⟩ ⟨rfl,f0,f6,hh⟩;simp only at f0 f6 hh;subst hh;have hx:e≠0→rMany n.toNat (xs,e)=([],(xs,e)):=by
   intro he;have:=hz he;subst this;rfl
  simp;simp only[Zge 92 9];obtain⟨ys,zs,e2,hm⟩:∃ys zs e2,rMany n.toNat (xs,e)=(ys,(zs,e2)):=⟨_,_,_,rfl⟩;rw[hm]at f6 hG hx ⊢;simp only[RS.row,rdE]at*;by_cases he:e=0
  ·subst he;by_cases he2:e2=0
   ·simp[h2,he2]at hG;subst hG;simp[f0,f6,get_set hr,he2,awp_ret,Zge 92 11,Zgr 92]
   ·simp[h2,he2]at hG;subst hG;simp[f0,get_set hr,he2,awp_ret,Zge 92 10,Zgr 92]
  ·have:=hx he;simp only[Prod.mk.injEq]at this;obtain⟨rfl,rfl,rfl⟩:=this;simp[he]at hG;subst hG;simp[f0,get_set hr,he,awp_ret,Zge 92 10,Zgr 92]
theorem p114e (s:RS) (hB:∀x∈s.1,0≤x∧x <256) (hl:s.1.length≤2^44) (h:List Row) (r:Nat) (hr:h[r]?=some s.row):FSp Tryz.prog GLx 45 [.ref r 0] h [.own 3 1 ((rInts s).1.map (.int .i64))] (h.set r (rInts s).2.row):=by
 refine fsp_of_awp (Zkk 45) rfl ?_;simp[Zga 45,awp,Zge 45 0,Zge 45 1,Zgr 45,entryD];refine⟨_,(p206e s hB hl h r hr),?_⟩;simp
theorem bytesI_size (b:ByteArray):(bytesI b).length=b.size:=by simp[bytesI]
theorem awp_range_of {P:Program} {GL:Globals} {q:Opd} {ps:List Nat} {asg body:AC} {Q:AExit→St→Prop} {s:St} (fid:Nat) (caps rets:List D) (h1 h':List Row) (tag:Tag)
  (hq:fnOf (q.ev s.e)=some (fid,caps)) (hh:s.h++[recRow P GL .ready (cpE s.e) ps asg body]=h1) (hf:FSp P GL fid (.yld s.h.length::caps) h1 rets h')
  (hr:h'[s.h.length]?=some (recRow P GL tag (cpE s.e) ps asg body)) (he:rangeEnd Q ⟨s.e,h'.set s.h.length .dead⟩ tag):awp P GL (.rangeF q ps asg body) Q s:=by
 rw[awp_rangeF];exact⟨fid,caps,rets,h',tag,hq,hh▸hf,hr,he⟩
open Go.Proofs
section
variable {P:Program} {GL:Globals}
theorem awp_loop_inv {c:AC} {Q:AExit→St→Prop} (n:Nat) (S:Nat→St) (I:Nat→Prop) {s:St} (hs:s=S 0) (h0:I 0)
  (h:∀k,k≤n→I k→awp P GL c (λe s'=>match e with| .normal=>k <n∧I (k+1)∧s'=S (k+1)|e=>Q e s') (S k)):awp P GL (.loop c) Q s:=by
 subst hs;refine⟨λm s=>∃k,k≤n∧m=n-k∧I k∧s=S k,⟨n,0,Nat.zero_le _,rfl,h0,rfl⟩,?_⟩;rintro m s ⟨k,hk,rfl,hi,rfl⟩;refine awp_mono c ?_ (h k hk hi);intro e s' h;cases e with
 |normal=>obtain⟨hlt,hi',rfl⟩:=h;exact⟨n-(k+1),by omega,k+1,hlt,rfl,hi',rfl⟩
 |exit i=>exact h
 |ret=>exact h
end
def okR (n d:Int):Bool:=decide (1≤d∧d≤1048576∧n≤1099511627776∧ -1099511627776≤n∧Int.gcd n d=1)
def ratV (n d:Int):V:= .agg [.int .i64 n,.int .i64 d]
theorem l350 (m:Nat):∀(a b:Nat),b≤m→a <2^64→b <2^64→
  awp Tryz.prog GLx (.loop (lG 360 0)) (λe s=>e= .exit 0∧find s.e 0= .v (.int .u64 (Nat.gcd a b))) ⟨[(0,.v (.int .u64 a)),(1,.v (.int .u64 b))],[]⟩:=by
 induction m with
 |zero=>
  intro a b hb h1 h2;have:b=0:=by omega
  subst this;refine awp_loop_end ?_;simp only[Zgl 360 0,awp_seq,awp_reg,awp_block,awp_cond,Zge 360 1];simp[awp_exit]
 |succ m ih=>
  intro a b hb h1 h2;by_cases h0:b=0
  ·exact ih a b (by omega) h1 h2
  ·have hlt:=Nat.mod_lt a (show 0 <b by omega);have hih:=ih b (a%b) (by omega) h2 (by omega);have e:Nat.gcd b (a%b)=Nat.gcd a b:=by rw[Nat.gcd_comm,←Nat.gcd_rec,Nat.gcd_comm]
   rw[e]at hih;refine awp_loop_one ?_ hih;simp only[Zgl 360 0,awp_seq,awp_reg,awp_block,awp_cond,Zge 360 1];have w1:IntKind.u64.wrap ((a:Int)%b)=((a%b:Nat):Int):=by rw[wrap_u64 (by omega) (by omega)];rfl
   have h3:0 <b:=by omega
   simp[h3,awp_skip,awp_regD,Zge 360 2,Int.tmod_eq_emod_of_nonneg,h0]
theorem p350 (a b:Nat) (h1:a <2^64) (h2:b <2^64):PSp Tryz.prog GLx 360 [.int .u64 a,.int .u64 b] [.int .u64 (Nat.gcd a b)]:=by
 refine psp_of_awp (Zkk 360) rfl ?_;simp only[Zga 360,awp_seq,awp_block,awp_reg,Zge 360 0,entry];simp;refine awp_mono _ ?_ (l350 b a b (Nat.le_refl _) h1 h2);rintro e s ⟨rfl,h⟩;simp[Zge 360 3,h,awp_ret,Zgr 360]
theorem p330 (n:Int) (hn:i64 n):PSp Tryz.prog GLx 279 [.int .i64 n] [.int .u64 n.natAbs]:=by
 refine psp_of_awp (Zkk 279) rfl ?_;unfold i64 at hn;by_cases h0:n <0
 ·simp[Zga 279,awp,Zge 279 0,Zge 279 1,Zge 279 2,Zgr 279,entry,h0];simp only[wrap_u64_mod];omega
 ·simp[Zga 279,awp,Zge 279 0,Zge 279 1,Zge 279 3,Zgr 279,entry,h0];simp only[wrap_u64_mod];omega
def buildE (neg:Bool) (n d:Nat):List V:=
 if n/Nat.gcd n d>1099511627776∨d/Nat.gcd n d>1048576 then [ratV 0 0,.int .i64 5]
 else [ratV (if neg then -((n/Nat.gcd n d:Nat):Int) else ((n/Nat.gcd n d:Nat):Int)) ((d/Nat.gcd n d:Nat):Int),.int .i64 0]
theorem p329 (neg:Bool) (n d:Nat) (h1:n <2^64) (h2:d <2^64) (hd:0 <d):PSp Tryz.prog GLx 278 [.bool neg,.int .u64 n,.int .u64 d] (buildE neg n d):=by
 refine psp_of_awp (Zkk 278) rfl ?_;have hg:0 <Nat.gcd n d:=Nat.gcd_pos_of_pos_right _ hd;have hn1:=Nat.div_le_self n (Nat.gcd n d);have hd1:=Nat.div_le_self d (Nat.gcd n d);have hp:=p350 n d h1 h2;unfold buildE;generalize Nat.gcd n d=g at*;have qa:(n:Int)/g=((n/g:Nat):Int):=rfl;have qb:(d:Int)/g=((d/g:Nat):Int):=rfl;generalize n/g=a at*;generalize d/g=b at*;have w1:IntKind.u64.wrap (a:Int)=a:=wrap_u64 (by omega) (by omega);have w2:IntKind.u64.wrap (b:Int)=b:=wrap_u64 (by omega) (by omega);have hg0:g≠0:=by omega
 simp only[Zga 278,awp_seq,awp_reg,awp_regD,awp_cond,Zge 278 0,Zge 278 1,Zge 278 2,Zge 278 3,entry];simp;refine⟨_,_,hp.fsp _,?_⟩;simp[Int.tdiv_eq_ediv_of_nonneg,qa,qb,w1,w2,hg0];have w3:IntKind.i64.wrap (a:Int)=a∨1099511627776 <a:=by
  by_cases h:a≤1099511627776
  ·exact .inl (wrap_i64 (by omega) (by omega))
  ·exact .inr (by omega)
 by_cases h3:1099511627776 <(a:Int)
 ·have h3':1099511627776 <a:=by omega
  simp[h3,h3',awp_ret,Zge 278 4,Zgr 278,putL,ratV]
 ·have h3':¬1099511627776 <a:=by omega
  by_cases h4:1048576 <(b:Int)
  ·have h4':1048576 <b:=by omega
   simp[h3,h3',h4,h4',awp_ret,Zge 278 4,Zgr 278,putL,ratV]
  ·have h4':¬1048576 <b:=by omega
   have w5:IntKind.i64.wrap (a:Int)=a:=wrap_i64 (by omega) (by omega);have w6:IntKind.i64.wrap (b:Int)=b:=wrap_i64 (by omega) (by omega);have w7:IntKind.i64.wrap (-(a:Int))= -a:=wrap_i64 (by omega) (by omega);cases neg<;>simp[h3,h3',h4,h4',awp_skip,awp_ret,Zge 278 5,Zge 278 6,Zge 278 7,Zge 278 8,Zgr 278,putL,ratV,w5,w6,w7]
theorem buildE_ok (n d:Int) (hd:1≤d) (h1:i64 n) (h2:i64 d):(buildE (decide (n <0) != decide (d <0)) n.natAbs d.natAbs=[ratV n d,.int .i64 0])↔okR n d=true:=by
 unfold buildE okR;unfold i64 at h1 h2;have e:Int.gcd n d=Nat.gcd n.natAbs d.natAbs:=rfl;have hg:0 <Nat.gcd n.natAbs d.natAbs:=Nat.gcd_pos_of_pos_right _ (by omega);have hdn:decide (d <0)=false:=by simp;omega
 simp only[hdn];rw[e]
 constructor
 ·intro h;split at h
  ·simp[ratV]at h
  ·rename_i hc;simp[ratV]at h;have hb:d.natAbs/Nat.gcd n.natAbs d.natAbs=d.natAbs:=by omega
   have hg1:Nat.gcd n.natAbs d.natAbs=1:=by
    rcases Nat.lt_or_ge 1 (Nat.gcd n.natAbs d.natAbs)with h3|h3
    ·have:=Nat.div_lt_self (show 0 <d.natAbs by omega) h3;omega
    ·omega
   rw[hg1]at hc;simp[hg1]at hc ⊢;omega
 ·intro h;simp at h;obtain⟨h3,h4,h5,h6,h7⟩:=h;rw[h7];rw[if_neg (by simp;omega)];simp[ratV]
  constructor
  ·split<;>omega
  ·omega
theorem buildE_two (neg:Bool) (n d:Nat):buildE neg n d=[ratV 0 0,.int .i64 5]∨∃a b,buildE neg n d=[ratV a b,.int .i64 0]:=by
 unfold buildE;split
 ·exact .inl rfl
 ·exact .inr ⟨_,_,rfl⟩
theorem p306 (n d:Int) (hd:d≠0) (h1:i64 n) (h2:i64 d):PSp Tryz.prog GLx 219 [.int .i64 n,.int .i64 d] (buildE (decide (n <0) != decide (d <0)) n.natAbs d.natAbs):=by
 refine psp_of_awp (Zkk 219) rfl ?_;simp only[Zga 219,awp_seq,awp_reg,awp_cond,Zge 219 0,Zge 219 1,entry];simp[hd,awp_skip,Zge 219 3];refine⟨_,_,(p330 n h1).fsp _,?_⟩;simp;refine⟨_,_,(p330 d h2).fsp _,?_⟩;simp;have hx:(decide (n <0) != decide (d <0))= !(decide (n <0)==decide (d <0)):=rfl
 try rw[←hx]
 unfold i64 at h1 h2;refine⟨_,_,(p329 _ n.natAbs d.natAbs (by omega) (by omega) (by omega)).fsp _,?_⟩;generalize (decide (n <0) != decide (d <0))=ng;obtain h|⟨a,b,h⟩:=buildE_two ng n.natAbs d.natAbs<;>rw[h]<;>simp[ratV,awp_ret,Zgr 219,putL]
theorem p248 (n d:Int) (h1:i64 n) (h2:i64 d):PSp Tryz.prog GLx 161 [ratV n d] [.int .i64 (if okR n d then 0 else 1)]:=by
 refine psp_of_awp (Zkk 161) rfl ?_;simp only[Zga 161,awp_seq,awp_reg,awp_cond,Zge 161 0,Zge 161 1,entry];simp[ratV];by_cases hd:d <1
 ·have:okR n d=false:=by unfold okR;simp;omega
  simp[hd,this,awp_ret,Zge 161 2,Zgr 161]
 ·have hp:=(p306 n d (by omega) h1 h2);have hb:=buildE_ok n d (by omega) h1 h2;simp[hd,awp_skip,Zge 161 3];refine⟨_,_,hp.fsp _,?_⟩;obtain h|⟨a,b,h⟩:=buildE_two (decide (n <0) != decide (d <0)) n.natAbs d.natAbs
  ·have h3:okR n d=false:=by
    cases h4:okR n d with
    |false=>rfl
    |true=>rw[hb.2 h4]at h;simp at h
   rw[h,h3];simp[ratV,awp_ret,Zge 161 4,Zge 161 5,Zgr 161,putL]
  ·have h3:okR n d=decide (a=n∧b=d):=by
    rw[h]at hb;simp[ratV]at hb;rw[Bool.eq_iff_iff,←hb];simp
   rw[h,h3];by_cases h4:a=n<;>by_cases h5:b=d<;>simp[h4,h5,ratV,awp_ret,Zge 161 4,Zge 161 5,Zge 161 6,Zgr 161,putL,V.eqL,V.eq1]
theorem okR_b {n d:Int} (h:okR n d=true):1≤d∧d≤1048576∧n≤1099511627776∧ -1099511627776≤n:=by
 unfold okR at h;simp at h;omega
theorem mul_b {a b:Int} (h1:a≤1099511627776) (h2: -1099511627776≤a) (h3:1≤b) (h4:b≤1048576):a*b≤1152921504606846976∧ -1152921504606846976≤a*b:=by
 have:=Int.mul_le_mul_of_nonneg_right h1 (show 0≤b by omega);have:=Int.mul_le_mul_of_nonneg_right h2 (show 0≤b by omega);omega
theorem l291 (L:List V) (k:Nat) (hk:k <2^40) (n d:Int) (h1:i64 n) (h2:i64 d) (hx:L[k]?=some (ratV n d)) (m:Int) (hm:(k:Int) <m) (h:List Row) (Q:AExit→St→Prop)
  (hok:okR n d=true→Q .normal ⟨[(6,.v (.list L)),(7,.v (.int .i64 m)),(8,.v (.int .i64 (k+1:Nat)))],h++[.cells [.v (.int .i64 n),.v (.int .i64 d)]]⟩)
  (hno:okR n d=false→∀s,find s.e 2= .v (.int .i64 1)→Q .ret s):
  awp Tryz.prog GLx (lG 111 0) Q ⟨[(6,.v (.list L)),(7,.v (.int .i64 m)),(8,.v (.int .i64 k))],h⟩:=by
 have hw:IntKind.i64.wrap ((k:Int)+1)=k+1:=wrap_i64 (by omega) (by omega);simp only[Zgl 111 0,awp_seq,awp_reg,awp_block,awp_cond,Zge 111 2];simp[hm,awp_skip,Zge 111 3,hx,ratV,putL,Zge 111 4];refine⟨_,_,(p248 n d h1 h2).fsp _,?_⟩;cases ho:okR n d with
 |true=>
  have:=hok ho;simp[Zge 111 5,Zge 111 7,hw];simpa using this
 |false=>
  simp[Zge 111 5,awp_ret,Zge 111 6];exact hno ho _ rfl
theorem p291 (a b c d:Int) (h1:i64 a) (h2:i64 b) (h3:i64 c) (h4:i64 d):PSp Tryz.prog GLx 111 [.list [ratV a b,ratV c d]] [.int .i64 (if okR a b&&okR c d then 0 else 1)]:=by
 refine psp_of_awp (Zkk 111) rfl ?_;simp only[Zga 111,awp_seq,awp_reg,awp_block,Zge 111 0,Zge 111 1,entry];simp;cases ho:okR a b with
 |false=>
  refine awp_loop_end ?_;refine l291 [ratV a b,ratV c d] 0 (by omega) a b h1 h2 rfl 2 (by omega) [] _ (λh=>by rw[h]at ho;cases ho) ?_;intro _ s hs;simp[Zgr 111,hs]
 |true=>
  refine awp_loop_one (s1:=⟨[(6,.v (.list [ratV a b,ratV c d])),(7,.v (.int .i64 2)),(8,.v (.int .i64 1))],[.cells [.v (.int .i64 a),.v (.int .i64 b)]]⟩) ?_ ?_
  ·exact l291 [ratV a b,ratV c d] 0 (by omega) a b h1 h2 rfl 2 (by omega) [] _ (λ_=>rfl) (λh=>by rw[h]at ho;cases ho)
  cases ho2:okR c d with
  |false=>
   refine awp_loop_end ?_;refine l291 [ratV a b,ratV c d] 1 (by omega) c d h3 h4 rfl 2 (by omega) [.cells [.v (.int .i64 a),.v (.int .i64 b)]] _ (λh=>by rw[h]at ho2;cases ho2) ?_;intro _ s hs;simp[Zgr 111,hs]
  |true=>
   refine awp_loop_one (s1:=⟨[(6,.v (.list [ratV a b,ratV c d])),(7,.v (.int .i64 2)),(8,.v (.int .i64 2))],[.cells [.v (.int .i64 a),.v (.int .i64 b)],.cells [.v (.int .i64 c),.v (.int .i64 d)]]⟩) ?_ ?_
   ·exact l291 [ratV a b,ratV c d] 1 (by omega) c d h3 h4 rfl 2 (by omega) [.cells [.v (.int .i64 a),.v (.int .i64 b)]] _ (λ_=>rfl) (λh=>by rw[h]at ho2;cases ho2)
   refine awp_loop_end ?_;simp only[Zgl 111 0,awp_seq,awp_reg,awp_block,awp_cond,Zge 111 2];simp[awp_exit,awp_ret,Zge 111 8,Zgr 111]
def lessR (a b c d:Int):Bool:=decide (a*d <c*b)
def cmpR (a b c d:Int):Int:=if a*d <c*b then -1 else if c*b <a*d then 1 else 0
theorem p292 (a b c d:Int) (h1:okR a b=true) (h2:okR c d=true):PSp Tryz.prog GLx 112 [ratV a b,ratV c d] [.int .i64 (cmpR a b c d)]:=by
 refine psp_of_awp (Zkk 112) rfl ?_;have q1:=okR_b h1;have q2:=okR_b h2;have m1:=mul_b (a:=a) (b:=d) (by omega) (by omega) (by omega) (by omega);have m2:=mul_b (a:=c) (b:=b) (by omega) (by omega) (by omega) (by omega);unfold cmpR;have w1:IntKind.i64.wrap (a*d)=a*d:=wrap_i64 (by omega) (by omega);have w2:IntKind.i64.wrap (c*b)=c*b:=wrap_i64 (by omega) (by omega);simp only[Zga 112,awp_seq,awp_reg,awp_regD,awp_block,awp_cond,Zge 112 0,Zge 112 1,Zge 112 2,entry];simp[ratV,w1,w2];by_cases l1:a*d <c*b
 ·simp[l1,awp_ret,Zge 112 3,Zgr 112]
 ·by_cases l2:c*b <a*d
  ·simp[l1,l2,awp_ret,Zge 112 4,Zge 112 5,Zgr 112]
  ·simp[l1,l2,awp_skip,awp_ret,Zge 112 4,Zge 112 6,Zgr 112]
theorem p227 (a b c d:Int) (h1:i64 a) (h2:i64 b) (h3:i64 c) (h4:i64 d):PSp Tryz.prog GLx 71 [ratV a b,ratV c d] (if okR a b&&okR c d then [.int .i64 (cmpR a b c d),.int .i64 0] else [.int .i64 0,.int .i64 1]):=by
 refine psp_of_awp (Zkk 71) rfl ?_;have hp:=(p291 a b c d h1 h2 h3 h4).fsp;simp only[Zga 71,awp_seq,awp_reg,awp_cond,Zge 71 0,Zge 71 1,Zge 71 2,entry];simp[ratV]at hp ⊢;refine⟨_,_,hp _,?_⟩;cases ho1:okR a b<;>cases ho2:okR c d<;>simp[awp_skip,awp_ret,Zge 71 3,Zge 71 4,Zgr 71]
 have hq:=(p292 a b c d ho1 ho2).fsp;simp[ratV]at hq;refine⟨_,⟨_,hq _⟩,?_⟩;simp
theorem p352 (a b c d:Int) (h1:okR a b=true) (h2:okR c d=true):PSp Tryz.prog GLx 414 [ratV a b,ratV c d] [.bool (lessR a b c d)]:=by
 refine psp_of_awp (Zkk 414) rfl ?_;have q1:=okR_b h1;have q2:=okR_b h2;have m1:=mul_b (a:=a) (b:=d) (by omega) (by omega) (by omega) (by omega);have m2:=mul_b (a:=c) (b:=b) (by omega) (by omega) (by omega) (by omega);have w1:IntKind.i64.wrap (a*d)=a*d:=wrap_i64 (by omega) (by omega);have w2:IntKind.i64.wrap (c*b)=c*b:=wrap_i64 (by omega) (by omega);simp[Zga 414,awp,Zge 414 0,Zge 414 1,Zgr 414,entry,ratV,w1,w2,lessR]
theorem l215 (m:Nat):∀(a b:Int),b.natAbs≤m→a.natAbs≤1099511627776→b.natAbs≤1099511627776→
  awp Tryz.prog GLx (.loop (lG 119 0)) (λe s=>e= .exit 0∧∃g:Int,g.natAbs=Int.gcd a b∧find s.e 0= .v (.int .i64 g)) ⟨[(0,.v (.int .i64 a)),(1,.v (.int .i64 b))],[]⟩:=by
 induction m with
 |zero=>
  intro a b hb h1 h2;have:b=0:=by omega
  subst this;refine awp_loop_end ?_;simp only[Zgl 119 0,awp_seq,awp_reg,awp_block,awp_cond,Zge 119 1];simp[awp_exit]
 |succ m ih=>
  intro a b hb h1 h2;by_cases h0:b=0
  ·exact ih a b (by omega) h1 h2
  ·have e:(a.tmod b).natAbs=a.natAbs%b.natAbs:=Int.natAbs_tmod a b;have hlt:=Nat.mod_lt a.natAbs (show 0 <b.natAbs by omega);have hih:=ih b (a.tmod b) (by omega) h2 (by omega);have e2:Int.gcd b (a.tmod b)=Int.gcd a b:=by
    unfold Int.gcd;rw[e,Nat.gcd_comm,←Nat.gcd_rec,Nat.gcd_comm]
   rw[e2]at hih;refine awp_loop_one ?_ hih;simp only[Zgl 119 0,awp_seq,awp_reg,awp_block,awp_cond,Zge 119 1];have w1:IntKind.i64.wrap (a.tmod b)=a.tmod b:=wrap_i64 (by omega) (by omega);simp[awp_skip,awp_regD,Zge 119 2,h0]
theorem p215 (a b:Int) (h1:a.natAbs≤1099511627776) (h2:b.natAbs≤1099511627776):PSp Tryz.prog GLx 119 [.int .i64 a,.int .i64 b] [.int .i64 (Int.gcd a b)]:=by
 refine psp_of_awp (Zkk 119) rfl ?_;simp only[Zga 119,awp_seq,awp_block,awp_reg,Zge 119 0,entry];simp;refine awp_mono _ ?_ (l215 b.natAbs a b (Nat.le_refl _) h1 h2);rintro e s ⟨rfl,g,hg,h⟩;have hgb:Int.gcd a b≤2199023255552:=by
  unfold Int.gcd;rcases Nat.eq_zero_or_pos a.natAbs with h3|h3
  ·rw[h3,Nat.gcd_zero_left];omega
  ·have:=Nat.gcd_le_left b.natAbs h3;omega
 by_cases h0:g <0
 ·have w:IntKind.i64.wrap (-g)= -g:=wrap_i64 (by omega) (by omega);simp[Zge 119 3,h,h0,awp_seq,awp_reg,awp_cond,awp_ret,Zge 119 4,Zgr 119,w];omega
 ·simp[Zge 119 3,h,h0,awp_seq,awp_reg,awp_cond,awp_skip,awp_ret,Zge 119 5,Zgr 119];omega
set_option maxHeartbeats 2000000 in
theorem p127 (n d:Int) (h1:i64 n) (h2:i64 d):PSp Tryz.prog GLx 82 [ratV n d] [.int .i64 (if okR n d then 0 else 1)]:=by
 refine psp_of_awp (Zkk 82) rfl ?_;simp only[Zga 82,awp_seq,awp_reg,awp_cond,Zge 82 0,Zge 82 1,entry];unfold okR;by_cases b1:d <1
 ·simp[ratV,b1,awp_ret,Zge 82 2,Zgr 82];omega
 by_cases b2:1048576 <d
 ·simp[ratV,b1,b2,awp_ret,Zge 82 2,Zgr 82];omega
 by_cases b3:1099511627776 <n
 ·simp[ratV,b1,b2,b3,awp_ret,Zge 82 2,Zgr 82];omega
 by_cases b4:n < -1099511627776
 ·simp[ratV,b1,b2,b3,b4,awp_ret,Zge 82 2,Zgr 82];omega
 simp[ratV,b1,b2,b3,b4];refine⟨_,_,(p215 n d (by omega) (by omega)).fsp _,?_⟩;by_cases b5:Int.gcd n d=1
 ·simp[b5,awp_skip,awp_ret,Zge 82 3,Zgr 82];omega
 ·simp[b5,awp_ret,Zge 82 2,Zgr 82];omega
section
variable {P:Program} {GL:Globals}
def Down (clos:List (List Nat)) (n:Nat) (rem:List Nat):Prop:=∀j <n,j∉rem→∀i∈(clos[j]?).getD [],i∉rem
theorem rdy_dep {clos:List (List Nat)} {rem:List Nat} {i:Nat} (h:rdy clos rem i=true):i∈rem∧∀j∈(clos[i]?).getD [],j∉rem:=by
 simp only[rdy,Bool.and_eq_true,List.contains_iff_mem,List.all_eq_true,Bool.not_eq_true',←Bool.not_eq_true]at h;exact⟨h.1,λj hj=>by simpa using h.2 j hj⟩
theorem atok_inv {is:List GI} {clos:List (List Nat)} {n:Nat} {K:St→Prop} (I:List Nat→St→Prop)
  (hstep:∀rem i s,i∈rem→(∀j∈(clos[i]?).getD [],j∉rem)→(∀j <n,j∉rem→i∉(clos[j]?).getD [])→I rem s→∃s1,gstepJ P GL (is.getD i default) s s1∧I (rem.erase i) s1)
  (hfin:∀s,I [] s→K s):∀(t:AT) (rem:List Nat) (s:St),rem.Nodup→Down clos n rem→t.chk is clos rem=true→I rem s→t.ok P GL is K s:=by
 have down:∀rem i,rem.Nodup→Down clos n rem→i∈rem→(∀j∈(clos[i]?).getD [],j∉rem)→Down clos n (rem.erase i):=by
  intro rem i hnd hd hi hdep j hj hjr k hk hkr;have hk2:k∈rem:=List.mem_of_mem_erase hkr;by_cases hji:j=i
  ·subst hji;exact hdep k hk hk2
  ·exact hd j hj (λhm=>hjr ((List.mem_erase_of_ne hji).2 hm)) k hk hk2
 intro t;induction t with
 |done=>
  intro rem s _ _ hc hi;simp only[AT.chk,List.isEmpty_iff]at hc;subst hc;exact hfin s hi
 |take i t ih=>
  intro rem s hnd hd hc hi;simp only[AT.chk,Bool.and_eq_true]at hc;obtain⟨h1,h2⟩:=rdy_dep hc.1.1.1;obtain⟨s1,g1,g2⟩:=hstep rem i s h1 h2 (λj hj hjr hij=>hd j hj hjr i hij h1) hi;exact⟨s1,g1,ih _ _ (hnd.erase i) (down rem i hnd hd h1 h2) hc.2 g2⟩
 |pick c ih=>
  intro rem s hnd hd hc hi;simp only[AT.chk,Bool.and_eq_true]at hc;exact ih rem s hnd hd hc.2 hi
 |alt i t r iht ihr=>
  intro rem s hnd hd hc hi;simp only[AT.chk,Bool.and_eq_true]at hc;obtain⟨h1,h2⟩:=rdy_dep hc.1.1.1;obtain⟨s1,g1,g2⟩:=hstep rem i s h1 h2 (λj hj hjr hij=>hd j hj hjr i hij h1) hi;exact⟨⟨s1,g1,iht _ _ (hnd.erase i) (down rem i hnd hd h1 h2) hc.1.2 g2⟩,ihr rem s hnd hd hc.2 hi⟩
 |none=>intro rem s _ _ _ _;trivial
def did (d:Nat→Bool) (i:Nat):Nat→Bool:=λj=>decide (j=i)||d j
theorem atok_all {is:List GI} {clos:List (List Nat)} {n:Nat} {K:St→Prop} (I:(Nat→Bool)→St→Prop) {t:AT} (ht:t.chk is clos (List.range n)=true)
  (hstep:∀d i s,i <n→d i=false→(∀j∈(clos[i]?).getD [],d j=true)→(∀j <n,i∈(clos[j]?).getD []→d j=false)→I d s→∃s1,gstepJ P GL (is.getD i default) s s1∧I (did d i) s1)
  (hfin:∀d s,(∀j <n,d j=true)→I d s→K s) {s:St} (h0:I (λj=>decide (n≤j)) s):t.ok P GL is K s:=by
 refine atok_inv (clos:=clos) (n:=n) (λrem s=>rem.Nodup∧(∀i∈rem,i <n)∧I (λj=>decide (j∉rem)) s) ?_ ?_ t (List.range n) s List.nodup_range ?_ ht ⟨List.nodup_range,λi hi=>List.mem_range.1 hi,?_⟩
 ·rintro rem i s hi hdep hup ⟨hnd,hlt,hI⟩;obtain⟨s1,g1,g2⟩:=hstep (λj=>decide (j∉rem)) i s (hlt i hi) (by simpa using hi) (λj hj=>by simpa using hdep j hj) (λj hj hij=>by
   have:j∈rem:=Classical.byContradiction λh=>hup j hj h hij;simpa using this) hI
  refine⟨s1,g1,hnd.erase i,λj hj=>hlt j (List.mem_of_mem_erase hj),?_⟩;have e:(λj=>decide (j∉rem.erase i))=did (λj=>decide (j∉rem)) i:=by
   funext j
   simp only[did,hnd.mem_erase_iff];by_cases h1:j=i<;>simp[h1]
  rw[e];exact g2
 ·rintro s ⟨_,_,hI⟩;exact hfin _ s (λj _=>by simp) hI
 ·intro j hj hjr i hi;exact absurd (List.mem_range.2 hj) hjr
 ·have e:(λj=>decide (j∉List.range n))=λj=>decide (n≤j):=by
   funext j;simp
  rw[e];exact h0
def EnvD (ns cs:List (Option Nat)) (bn:List Nat) (vs bv:Nat→D) (d:Nat→Bool) (e:Env):Prop:=
 (∀j k:Nat,ns[j]?=some (some k)→d j=true→(∀c:Nat,cs[j]?=some (some c)→d c=false)→find e k=vs j)∧∀k∈bn,find e k=bv k
def okN (ns:List (Option Nat)) (bn:List Nat):Bool:=
 (List.range ns.length).all λj=>match ns[j]? with
  |some (some k)=> !bn.contains k&&(List.range ns.length).all λi=>i==j|| !(ns[i]?==some (some k))
  |_=>true
theorem okN_get {ns:List (Option Nat)} {bn:List Nat} (h:okN ns bn=true) {j k:Nat} (hj:ns[j]?=some (some k)):k∉bn∧∀i,ns[i]?=some (some k)→i=j:=by
 have hjl:j <ns.length:=(List.getElem?_eq_some_iff.1 hj).1;have:=List.all_eq_true.1 h j (List.mem_range.2 hjl);rw[hj]at this;simp only[Bool.and_eq_true,Bool.not_eq_true',List.all_eq_true,Bool.or_eq_true,beq_iff_eq]at this;refine⟨λhm=>?_,λi hi=>?_⟩
 ·have h1:=this.1;simp at h1;exact h1 hm
 ·have hil:i <ns.length:=(List.getElem?_eq_some_iff.1 hi).1;rcases this.2 i (List.mem_range.2 hil)with h2|h2
  ·exact h2
  ·rw[hi]at h2;simp at h2
theorem EnvD.step {ns cs:List (Option Nat)} {bn:List Nat} {vs bv:Nat→D} {d:Nat→Bool} {e e1:Env} (hE:EnvD ns cs bn vs bv d e) (hok:okN ns bn=true) (i:Nat)
  (hnew:∀k:Nat,ns[i]?=some (some k)→find e1 k=vs i) (hold:∀k:Nat,ns[i]?≠some (some k)→(∀j:Nat,cs[j]?=some (some i)→ns[j]?≠some (some k))→find e1 k=find e k):EnvD ns cs bn vs bv (did d i) e1:=by
 refine⟨λj k hj hd hc=>?_,λk hk=>?_⟩
 ·by_cases hji:j=i
  ·subst hji;exact hnew k hj
  ·have hdj:d j=true:=by simpa[did,hji]using hd
   rw[hold k (λhi=>hji ((okN_get hok hi).2 j hj)) (λj' hj' hk'=>?_)]
   ·refine hE.1 j k hj hdj λc hcc=>?_;have:=hc c hcc;simp only[did,Bool.or_eq_false_iff]at this;exact this.2
   ·have hjj:j=j':=(okN_get hok hk').2 j hj;subst hjj;have:=hc i hj';simp[did]at this
 ·rw[hold k (λhi=>(okN_get hok hi).1 hk) (λj' _ hk'=>(okN_get hok hk').1 hk)];exact hE.2 k hk
theorem EnvD.push {ns cs:List (Option Nat)} {bn:List Nat} {vs bv:Nat→D} {d:Nat→Bool} {e:Env} (hE:EnvD ns cs bn vs bv d e) (hok:okN ns bn=true) (i k:Nat) {v:D} (hi:ns[i]?=some (some k)) (hv:vs i=v):
  EnvD ns cs bn vs bv (did d i) ((k,v)::e):=by
 refine hE.step hok i (λk' hk'=>?_) (λk' hk' _=>?_)
 ·rw[hi]at hk';simp only[Option.some.injEq]at hk';subst hk';show (if k=k then v else find e k)=vs i;rw[if_pos rfl,hv]
 ·show (if k=k' then v else find e k')=find e k';rw[if_neg (λh=>hk' (by rw[hi,h]))]
theorem EnvD.last {ns cs:List (Option Nat)} {bn:List Nat} {vs bv:Nat→D} {d:Nat→Bool} {e:Env} (hE:EnvD ns cs bn vs bv d e) (hok:okN ns bn=true) (i j m:Nat) (hi:ns[i]?=some none) (hj:cs[j]?=some (some i)) (hm:ns[j]?=some (some m)):
  EnvD ns cs bn vs bv (did d i) ((m,.any)::e):=by
 refine hE.step hok i (λk' hk'=>?_) (λk' hk' hc=>?_)
 ·rw[hi]at hk';simp at hk'
 ·show (if m=k' then .any else find e k')=find e k';rw[if_neg (λh=>hc j hj (by rw[hm,h]))]
theorem pureStep {is:List GI} {i k:Nat} {pi:PI} {v:D} {se:Env} {sh:List Row} (hx:is.getD i default=⟨none,.p k pi⟩) (hv:pi.val se sh=some v):gstepJ P GL (is.getD i default) ⟨se,sh⟩ ⟨(k,v)::se,sh⟩:=by
 rw[hx];refine .inl ?_;show (pi.val se sh).map (λx=>(⟨(k,x)::se,sh⟩:St))=_;rw[hv];rfl
theorem stepStep {is:List GI} {i:Nat} {ai:AI} {s s1:St} (hx:is.getD i default=⟨none,ai⟩) (hv:ai.step s=some s1):gstepJ P GL (is.getD i default) s s1:=by
 rw[hx];exact .inl hv
theorem callStep {is:List GI} {i k f:Nat} {args:List Opd} {r:D} {se:Env} {sh h':List Row} (hx:is.getD i default=⟨none,.callF (some k) (.c (.v (.func f []))) args⟩) (hF:FSp P GL f (argsOf se args) sh [r] h'):
  gstepJ P GL (is.getD i default) ⟨se,sh⟩ ⟨(k,r)::se,h'⟩:=by
 rw[hx];exact .inr (.inr (.inl ⟨some k,_,args,[r],h',.inl rfl,⟨f,[],rfl,by simpa using hF⟩,rfl⟩))
end
def aroundI (a n:Int):Int:=if a <0 then (IntKind.i64.wrap (0-IntKind.i64.wrap (a+1))).tmod n else a.tmod n
theorem p11 (a n:Int) (hn:n≠0):PSp Tryz.prog GLx 16 [.int .i64 a,.int .i64 n] [.int .i64 (aroundI a n)]:=by
 refine psp_of_awp (Zkk 16) rfl ?_;unfold aroundI;by_cases h1:a <0<;>simp[Zga 16,awp,Zge 16 0,Zge 16 1,Zge 16 2,Zge 16 3,Zgr 16,entry,h1,hn]
def pickI (l:List Int) (i n:Int):Int:=if i <0 then 0 else match l[i.toNat]? with|some x=>aroundI x n|none=>0
theorem p47 (l:List Int) (i n:Int) (hn:n≠0):PSp Tryz.prog GLx 17 [nums .i64 l,.int .i64 i,.int .i64 n] [.int .i64 (pickI l i n)]:=by
 refine psp_of_awp (Zkk 17) rfl ?_;unfold pickI;by_cases h1:i <0
 ·simp[Zga 17,awp,Zge 17 0,Zge 17 1,Zge 17 2,Zgr 17,entry,h1,nums]
 ·by_cases h2:(l.length:Int)≤i
  ·have:l[i.toNat]?=none:=by rw[List.getElem?_eq_none_iff];omega
   simp[Zga 17,awp,Zge 17 0,Zge 17 1,Zge 17 2,Zgr 17,entry,h1,h2,nums,this]
  ·have hlt:i.toNat <l.length:=by omega
   have hx:l[i.toNat]?=some l[i.toNat]:=List.getElem?_eq_getElem hlt;have h0:0≤i:=by omega
   simp[Zga 17,awp,Zge 17 0,Zge 17 1,Zge 17 3,Zgr 17,entry,h1,h2,nums,hx,h0,V.cells,fnOf,D.norm,argsOf,D.arg];refine⟨_,⟨_,(p11 l[i.toNat] n hn).fsp []⟩,?_⟩;simp[retDs]
end Go.Va
set_option maxHeartbeats 4000000
namespace Go.Va
open Go.Proofs
noncomputable def tbp:TL:=[te 129,te 130,te 131,te 107,te 177,te 178,te 179,te 159,te 223,te 171]
theorem tbp_ok:tbp.all ck=true:=by kernel_rfl
noncomputable def Tb:Tbl:=λf=>lookT tbp f
theorem Tb_ok:∀f n ac rs,Tb f=some (n,ac,rs)→chkF Tryz.prog GLx f n ac rs=true:=lookT_ok tbp_ok
end Go.Va
namespace Go.Va
structure HM where
 E:List ((Int×Int)×Int)
 st:List Nat
 ck:Nat
def hget:List ((Int×Int)×Int)→Int×Int→Option Int
 |[],_=>none
 |x::E,k=>if x.1=k then some x.2 else hget E k
def hups:List ((Int×Int)×Int)→Int×Int→Int→List ((Int×Int)×Int)
 |[],k,v=>[(k,v)]
 |x::E,k,v=>if x.1=k then (k,v)::E else x::hups E k v
def HM.get (m:HM) (k:Int×Int):Option Int:=hget m.E k
def HM.set (m:HM) (k:Int×Int) (v:Int):HM:=
 if (m.get k).isSome then ⟨hups m.E k v,m.st,m.ck⟩ else ⟨hups m.E k v,m.st++[m.ck],m.ck+1⟩
def entH (x:(Int×Int)×Int):V×V:=(.agg [.int .i64 x.1.1,.int .i64 x.1.2],.int .u64 x.2)
def HM.row (m:HM):Row:= .map (m.E.map entH) m.st m.ck
theorem hget_ups:∀(E:List ((Int×Int)×Int)) (k:Int×Int) (v:Int) (k':Int×Int),hget (hups E k v) k'=if k'=k then some v else hget E k'
 |[],k,v,k'=>by simp only[hups,hget];by_cases h:k=k'<;>simp[h,eq_comm]
 |x::E,k,v,k'=>by
  simp only[hups];by_cases h:x.1=k
  ·subst h;simp only[if_true,hget];by_cases h2:x.1=k'<;>simp[h2,eq_comm]
   intro h3;exact absurd h3.symm h2
  ·rw[if_neg h];simp only[hget,hget_ups E k v k'];by_cases h2:x.1=k'
   ·subst h2;simp[h]
   ·simp[h2]
theorem HM.get_set (m:HM) (k:Int×Int) (v:Int) (k':Int×Int):(m.set k v).get k'=if k'=k then some v else m.get k':=by
 unfold HM.set;split<;>exact hget_ups _ _ _ _
section
variable {P:Program} {GL:Globals}
theorem anyD_inv {is:List GI} {clos:List (List Nat)} {n:Nat} {K:St→Prop} (I:List Nat→St→Prop)
  (hstep:∀rem i s,rem.Nodup→(∀j∈rem,j <n)→i∈rem→(∀j∈(clos[i]?).getD [],j∉rem)→(∀j <n,j∉rem→i∉(clos[j]?).getD [])→I rem s→awpG P GL (is.getD i default) (λs1=>I (rem.erase i) s1) s)
  (hfin:∀s,I [] s→K s):∀(k:Nat) (rem:List Nat) (s:St),rem.length=k→rem.Nodup→(∀j∈rem,j <n)→Down clos n rem→I rem s→AnyD P GL is clos K k rem s:=by
 intro k;induction k with
 |zero=>
  intro rem s hk _ _ _ hi;have:rem=[]:=List.eq_nil_of_length_eq_zero hk;subst this;exact hfin s hi
 |succ k ih=>
  intro rem s hk hnd hlt hd hi i him hdep;refine awpG_mono (λs1 h1=>ih (rem.erase i) s1 ?_ (hnd.erase i) (λj hj=>hlt j (List.mem_of_mem_erase hj)) ?_ h1) (hstep rem i s hnd hlt him hdep (λj hj hjr hij=>hd j hj hjr i hij him) hi)
  ·rw[List.length_erase_of_mem him];omega
  ·intro j hj hjr k2 hk2 hkr;have hk3:k2∈rem:=List.mem_of_mem_erase hkr;by_cases hji:j=i
   ·subst hji;exact hdep k2 hk2 hk3
   ·exact hd j hj (λhm=>hjr ((List.mem_erase_of_ne hji).2 hm)) k2 hk2 hk3
theorem anyD_all {is:List GI} {clos:List (List Nat)} {n:Nat} {K:St→Prop} (I:(Nat→Bool)→St→Prop)
  (hstep:∀d i s,i <n→d i=false→(∀j∈(clos[i]?).getD [],d j=true)→(∀j <n,i∈(clos[j]?).getD []→d j=false)→I d s→awpG P GL (is.getD i default) (λs1=>I (did d i) s1) s)
  (hfin:∀d s,(∀j <n,d j=true)→I d s→K s) {s:St} (h0:I (λj=>decide (n≤j)) s):AnyD P GL is clos K n (List.range n) s:=by
 refine anyD_inv (clos:=clos) (n:=n) (λrem s=>I (λj=>decide (j∉rem)) s) ?_ ?_ n (List.range n) s (by simp) List.nodup_range (λj hj=>List.mem_range.1 hj) ?_ ?_
 ·intro rem i s hnd hlt hi hdep hup hI;have e:(λj=>decide (j∉rem.erase i))=did (λj=>decide (j∉rem)) i:=by
   funext j
   simp only[did,hnd.mem_erase_iff];by_cases h1:j=i<;>simp[h1]
  rw[e];exact hstep (λj=>decide (j∉rem)) i s (hlt i hi) (by simpa using hi) (λj hj=>by simpa using hdep j hj) (λj hj hij=>by
   have:j∈rem:=Classical.byContradiction λh=>hup j hj h hij;simpa using this) hI
 ·intro s hI;exact hfin _ s (λj _=>by simp) hI
 ·intro j hj hjr i hi;exact absurd (List.mem_range.2 hj) hjr
 ·have e:(λj=>decide (j∉List.range n))=λj=>decide (n≤j):=by
   funext j;simp
  rw[e];exact h0
end
open Go.Proofs
attribute [simp] fnOf D.norm argsOf D.arg retDs get_set get_app V.cells resDs AR.d D.keep
abbrev gi (i:AI):GI:=⟨none,i⟩
def cKb:AC:= .seq (.reg [gi (.itr 1 6 (.t 5 false)),gi (.p 7 (.ext (.t 6 false) 0))] [0,5,7]) (.seq (.cond (.t 7 false) .skip (.exit 0)) (.block 1 (.seq (.reg [gi (.itr 2 8 (.t 5 false)),gi (.p 9 (.ext (.t 8 false) 0)),gi (.mv 3 (.t 9 false))] [0,3,5])
 (.seq (.reg [gi (.mv 10 (.t 0 false)),gi (.mv 11 (.t 3 false)),gi (.call (some 12) (.t 10 false) [.t 11 false]),gi (.p 13 (.not (.t 12 false)))] [0,5,13]) (.cond (.t 13 false) .ret .skip)))))
def cK:AC:= .seq (.reg [gi (.p 4 (.load (.t 1 false) 1 false)),gi (.itr 0 5 (.t 4 false))] [0,5]) (.block 0 (.loop cKb))
theorem k292:chkF Tryz.prog GLx 349 2 cK []=true:=by kernel_rfl
theorem k325:chkF Tryz.prog GLx 384 2 cK []=true:=by kernel_rfl
theorem awp_rangeK {P:Program} {GL:Globals} {q:Opd} {ps:List Nat} {asg body:AC} {Q:AExit→St→Prop} {s:St} (n:Nat) (hn:s.h.length=n) (fid:Nat) (caps rets:List D) (h1 h':List Row) (tag:Tag)
  (hq:fnOf (q.ev s.e)=some (fid,caps)) (hh:s.h++[recRow P GL .ready (cpE s.e) ps asg body]=h1) (hf:FSp P GL fid (.yld n::caps) h1 rets h')
  (hr:h'[n]?=some (recRow P GL tag (cpE s.e) ps asg body)) (he:rangeEnd Q ⟨s.e,h'.set n .dead⟩ tag):awp P GL (.rangeF q ps asg body) Q s:=by
 subst hn;rw[awp_rangeF];exact⟨fid,caps,rets,h',tag,hq,hh▸hf,hr,he⟩
section
variable {fid:Nat} (hk:chkF Tryz.prog GLx fid 2 cK []=true)
include hk
theorem pK0 {H:List Row} {y b:Nat} (hb:H[b]?=some (.cells [.v .nilm])):FSp Tryz.prog GLx fid [.yld y,.ref b 0] H [] (H++[itN]):=by
 refine fsp_of_awp hk rfl ?_;simp only[cK,awp_seq,awp_reg,awp_block,entryD];simp[hb];refine awp_loop_end ?_;simp only[cKb,awp_seq,awp_reg,awp_block,awp_cond];simp;refine .inl ?_;simp[awp_exit,resDs]
theorem pKn {H:List Row} {y b m ck:Nat} (hb:H[b]?=some (.cells [.mref m])) (hm:H[m]?=some (.map [] [] ck)):FSp Tryz.prog GLx fid [.yld y,.ref b 0] H [] (H++[itR m ck []]):=by
 refine fsp_of_awp hk rfl ?_;simp only[cK,awp_seq,awp_reg,awp_block,entryD];simp[hb,hm];refine awp_loop_end ?_;simp only[cKb,awp_seq,awp_reg,awp_block,awp_cond,awpOps_plain,awpI];refine .inr ⟨H.length,m,ck,[],[],[],rfl,by simp,get_old _ hm,?_,?_⟩
 ·intro _;simp[awp_exit,resDs]
 ·intro i y kv h;simp at h
theorem pK1 {H H':List Row} {y b m ck c:Nat} {k v:V} (hb:H[b]?=some (.cells [.mref m])) (hm:H[m]?=some (.map [(k,v)] [c] ck)) (hl:H'.length=H.length) (hm':H'[m]?=some (.map [(k,v)] [c] ck))
  (hy:YSp Tryz.prog GLx y [.v k] (H++[itR m ck [c]]) true (H'++[itR m ck [c]])):FSp Tryz.prog GLx fid [.yld y,.ref b 0] H [] (H'++[itR m ck [c]]):=by
 refine fsp_of_awp hk rfl ?_;have hmH:(H++[itR m ck []])[m]?=some (.map [(k,v)] [c] ck):=get_old _ hm;have hmH1:(H++[itR m ck [c]])[m]?=some (.map [(k,v)] [c] ck):=get_old _ hm;simp only[cK,awp_seq,awp_reg,awp_block,entryD];simp[hb,hm];refine awp_loop_one (s1:=⟨[(0,.yld y),(5,.ref H.length 0),(13,.v (.bool false))],H'++[itR m ck [c]]⟩) ?_ ?_
 ·simp only[cKb,awp_seq,awp_reg,awp_block,awp_cond,awpOps_plain,awpI];refine .inr ⟨H.length,m,ck,[],[(k,v)],[c],rfl,by simp,hmH,?_,?_⟩
  ·intro h;simp at h
  ·intro i y' kv h1 h2 _;have hi:i=0:=by
    have:=(List.getElem?_eq_some_iff.1 h1).1;simp at this;exact this
   subst hi;simp at h1 h2;subst h1;subst h2;simp[awp_skip];refine⟨m,ck,[],[(k,v)],[c],0,c,rfl,hmH1,rfl,k,⟨v,rfl⟩,.inr ?_⟩;simpa[argsOf,D.arg]using hy
 ·refine awp_loop_end ?_;simp only[cKb,awp_seq,awp_reg,awp_block,awp_cond,awpOps_plain,awpI];refine .inr ⟨H.length,m,ck,[c],[(k,v)],[c],rfl,by rw[←hl];simp,get_old _ hm',?_,?_⟩
  ·intro _;simp[awp_exit,resDs]
  ·intro i y' kv h1 _ h3;have hi:i=0:=by
    have:=(List.getElem?_eq_some_iff.1 h1).1;simp at this;exact this
   subst hi;simp at h1;subst h1;simp at h3
end
def KY (fid:Nat) (r:Nat) (h:List Row) (ks:List V):Prop:=(fid=349∨fid=384)∧
 ((ks=[]∧h[r]?=some (.cells [.v .nilm]))∨(ks=[]∧∃m ck,h[r]?=some (.cells [.mref m])∧h[m]?=some (.map [] [] ck))∨∃k v m c ck,ks=[k]∧h[r]?=some (.cells [.mref m])∧h[m]?=some (.map [(k,v)] [c] ck))
theorem pKY {fid r:Nat} {h:List Row} {ks:List V} (hK:KY fid r h ks) (B B' L:Row) (hy:∀k J,ks=[k]→YSp Tryz.prog GLx (h.length+1) [.v k] (h++B::L::J) true (h++B'::L::J)):
  ∃J,FSp Tryz.prog GLx fid [.yld (h.length+1),.ref r 0] (h++[B,L]) [] (h++(if ks=[] then B else B')::L::[J]):=by
 obtain⟨hf,hK⟩:=hK;have hk:chkF Tryz.prog GLx fid 2 cK []=true:=by
  rcases hf with rfl|rfl
  ·exact k292
  ·exact k325
 rcases hK with ⟨rfl,hb⟩|⟨rfl,m,ck,hb,hm⟩|⟨k,v,m,c,ck,rfl,hb,hm⟩
 ·exact⟨itN,by simpa using pK0 hk (y:=h.length+1) (get_old [B,L] hb)⟩
 ·exact⟨itR m ck [],by simpa using pKn hk (y:=h.length+1) (get_old [B,L] hb) (get_old [B,L] hm)⟩
 ·refine⟨itR m ck [c],?_⟩;have:=pK1 hk (y:=h.length+1) (H':=h++[B',L]) (get_old [B,L] hb) (get_old [B,L] hm) (by simp) (get_old [B',L] hm) (by simpa using hy k [itR m ck [c]] rfl);simpa using this
theorem yK346 (h J:List Row) (e0:Env) (hf:find e0 2= .ref h.length 0) (k:Int):
  YSp Tryz.prog GLx (h.length+1) [.v (.int .i64 k)] (h++ .cells [.own 3 1 []]::recRow Tryz.prog GLx .ready e0 [7] (lG 409 0) (lG 409 1000)::J) true
   (h++ .cells [.own 3 1 [.int .i64 k]]::recRow Tryz.prog GLx .ready e0 [7] (lG 409 0) (lG 409 1000)::J):=by
 refine ysp_of_awp (e0:=e0) (ps:=[7]) (asg:=lG 409 0) (body:=lG 409 1000) (by simp) rfl ?_;simp only[setPs,Zgl 409 0,Zgl 409 1000,awp_reg,awp_block,Zge 409 2,Zge 409 3];simp[hf,V.cells,headOK,roomy,putL,roundEnd]
theorem pK346 {fid r:Nat} {h:List Row} {ks:List Int} (hK:KY fid r h (ks.map (.int .i64))):
  FSp Tryz.prog GLx 409 [.nil 3 1,.func fid [.ref r 0]] h [.v (.list (ks.map (.int .i64)))] (h++[.dead,.dead,.dead]):=by
 obtain⟨J,hJ⟩:=pKY hK (.cells [.own 3 1 []]) (.cells [.own 3 1 (ks.map (.int .i64))]) (recRow Tryz.prog GLx .ready (cpE [(2,.ref h.length 0),(6,.func fid [.ref r 0])]) [7] (lG 409 0) (lG 409 1000)) (λk J hk=>by
  match ks,hk with
  |[k'],hk=>
   simp at hk;subst hk;exact yK346 h J _ rfl k')
 have e:(if ks.map (V.int IntKind.i64)=[] then Row.cells [.own 3 1 []] else .cells [.own 3 1 (ks.map (.int .i64))])= .cells [.own 3 1 (ks.map (.int .i64))]:=by
  split
  ·rename_i h;rw[h]
  ·rfl
 rw[e]at hJ;have hq:FSp Tryz.prog GLx 409 [.nil 3 1,.func fid [.ref r 0]] h [.v (.list (ks.map (.int .i64)))] (h++[.cells [.own 3 1 (ks.map (.int .i64))],.dead,J]):=by
  refine fsp_of_awp (Zkk 409) rfl ?_;simp only[Zga 409,awp_seq,awp_reg,awp_block,Zge 409 0,Zge 409 1,entryD];simp;refine awp_rangeK (h.length+1) (by simp) fid [.ref r 0] [] _ _ .ready rfl rfl (by simpa using hJ) (by simp) ?_;simp[rangeEnd,Zge 409 4];simp[awp_ret,Zgr 409]
 have:=hq.kill h.length;simpa[kill]using this
theorem pK291 {fid r:Nat} {h:List Row} {ks:List Int} (hK:KY fid r h (ks.map (.int .i64))):
  FSp Tryz.prog GLx 348 [.func fid [.ref r 0]] h [.v (.list (ks.map (.int .i64)))] (h++[.dead,.dead,.dead]):=by
 refine fsp_of_awp (Zkk 348) rfl ?_;simp only[Zga 348,awp_seq,awp_reg,Zge 348 0,Zge 348 1,entryD];simp;refine⟨_,_,pK346 hK,?_⟩;simp[awp_ret,Zgr 348]
def pRun (h:List Row):List GI→Env→Option Env
 |[],e=>some e
 |⟨none,.p d i⟩::r,e=>match i.val e h with
  |some x=>pRun h r ((d,x)::e)
  |none=>none
 |⟨none,.mv d x⟩::r,e=>pRun h r ((d,x.ev e)::x.clear e)
 |_::_,_=>none
theorem pRun_ok {P:Program} {GL:Globals} {h J:List Row}:∀ {ops:List GI} {e e':Env} {K:St→Prop},pRun h ops e=some e'→K ⟨e',h++J⟩→awpOps P GL ops K ⟨e,h++J⟩
 |[],e,e',K,hr,hK=>by
  simp only[pRun,Option.some.injEq]at hr;subst hr;exact hK
 |⟨none,.p d i⟩::r,e,e',K,hr,hK=>by
  simp only[pRun]at hr;split at hr
  ·rename_i x hx;rw[awpOps_plain];simp only[awpI,AI.step,PI.val_grow hx,Option.map_some];exact pRun_ok hr hK
  ·cases hr
 |⟨none,.mv d x⟩::r,e,e',K,hr,hK=>by
  simp only[pRun]at hr;rw[awpOps_plain];exact pRun_ok hr hK
section
variable (is:List GI) (clos:List (List Nat)) (H:List Row) (eS:Env) (base:List Nat) (PV:List (V×V))
def dstA (i:Nat):Option Nat:=(is.getD i default).i.dst
def rdA (i:Nat) (l:List Nat):Bool:=l.all λt=>base.contains t||((clos[i]?).getD []).any λj=>decide (j <is.length)&&dstA is j==some t
def midA (i:Nat):Bool:=decide (i≠0)&&decide (i+1≠is.length)
def intKey:V→Bool
 | .int .i64 _=>true
 |_=>false
def coreA (i:Nat) (ai:AI):Bool:=match ai with
 | .p d pi=>midA is i&&(match pi.val eS H with
  |some x=>D.beq x (find eS d)
  |none=>false)
 | .mv d x=>midA is i&&(x.wr.isEmpty&&D.beq (x.ev eS) (find eS d))
 | .mkm d=>decide (i=0)&&decide (i+1≠is.length)&&D.beq (.mref H.length) (find eS d)
 | .mput m k v st ks=>midA is i&&D.beq (m.ev eS) (.mref H.length)&&(!st&&ks==[0])&&((clos[i]?).getD []).contains 0&&((clos[is.length-1]?).getD []).contains i&&(match (k.ev eS).toV,(v.ev eS).toV with
  |some kv,some vv=>intKey kv&&PV.any λx=>V.beqs [x.1,x.2] [kv,vv]
  |_,_=>false)
 | .itr k d x=>decide (k=0)&&D.beq (x.ev eS) (.mref H.length)&&D.beq (find eS d) (.ref (H.length+1) 0)&&decide (i+1=is.length)&&decide (i≠0)&&((clos[i]?).getD []).contains 0
 |_=>false
def opA (i:Nat):Bool:=
 let x:=is.getD i default
 rdA is clos base i x.rd&&(match dstA is i with|some d=> !base.contains d&&(List.range is.length).all (λj=>decide (i=j)|| !(dstA is j==some d))|none=>true)&&
 (match x.g with
 |none=>coreA is clos H eS PV i x.i
 |some (t,want)=>match find eS t with
  | .v (.bool b)=>if b=want then coreA is clos H eS PV i x.i else midA is i&&(match dstA is i with|some d=>D.beq (find eS d) (.tup [])|none=>true)
  | .tup []=>midA is i&&(match dstA is i with|some d=>D.beq (find eS d) (.tup [])|none=>true)
  |_=>false)
def MOK (es:List (V×V)) (st:List Nat):Prop:=es.length=st.length∧∀kv∈es,intKey kv.1=true∧kv∈PV
structure LI (d:Nat→Bool) (s:St):Prop where
 base:∀t∈base,find s.e t=find eS t
 tmp:∀i <is.length,d i=true→∀t,dstA is i=some t→find s.e t=find eS t
 h0:d 0=false→s.h=H
 h1:d 0=true→d (is.length-1)=false→∃es st ck,s.h=H++[.map es st ck]∧MOK PV es st
 h2:d (is.length-1)=true→∃es st ck,s.h=H++[.map es st ck,itR H.length ck []]∧MOK PV es st
end
theorem mfind_int {k:Int}:∀ {es:List (V×V)},(∀kv∈es,intKey kv.1=true)→∃r,mfind false [0] (.int .i64 k) es=some r
 |[],_=>⟨none,rfl⟩
 |(x,y)::es,h=>by
  have hx:=h (x,y) (by simp);obtain⟨r,hr⟩:=mfind_int (k:=k) (es:=es) λkv hkv=>h kv (by simp[hkv]);cases x with
  |int kk n=>
   cases kk<;>simp[intKey]at hx
   rw[mfind];by_cases hkn:k=n
   ·exact⟨some 0,by simp[keyOK,V.cells,V.eqL,V.eq1,hkn]⟩
   ·have hkn:(k==n)=false:=by simpa using hkn
    exact⟨r.map (· +1),by simp[keyOK,V.cells,V.eqL,V.eq1,hkn,hr]⟩
  |_=>simp[intKey]at hx
theorem LI.rows {is:List GI} {H:List Row} {eS:Env} {base:List Nat} {PV:List (V×V)} {d:Nat→Bool} {s:St} (h:LI is H eS base PV d s):∃J,s.h=H++J:=by
 cases h0:d 0 with
 |false=>exact⟨[],by simp[h.h0 h0]⟩
 |true=>
  cases h1:d (is.length-1)with
  |false=>obtain⟨es,st,ck,e,_⟩:=h.h1 h0 h1;exact⟨_,e⟩
  |true=>obtain⟨es,st,ck,e,_⟩:=h.h2 h1;exact⟨_,e⟩
theorem LI.put {is:List GI} {H:List Row} {eS:Env} {base:List Nat} {PV:List (V×V)} {d:Nat→Bool} {s:St} (h:LI is H eS base PV d s) {i:Nat} (hm:midA is i=true) {t:Nat} {x:D}
  (hd:dstA is i=some t) (hb:base.contains t=false) (hu:∀j <is.length,i≠j→dstA is j≠some t) (hx:x=find eS t):LI is H eS base PV (did d i) ⟨(t,x)::s.e,s.h⟩:=by
 simp only[midA,Bool.and_eq_true,decide_eq_true_eq]at hm;have e0:did d i 0=d 0:=by simp[did,Ne.symm hm.1]
 have e1:did d i (is.length-1)=d (is.length-1):=by
  have:¬is.length-1=i:=by omega
  simp[did,this]
 refine⟨λt' ht'=>?_,λj hj hdj t' ht'=>?_,?_,?_,?_⟩
 ·have:t≠t':=by rintro rfl;simp at hb;exact hb ht'
  simp[find,this];exact h.base t' ht'
 ·simp only[find];split
  ·rename_i e;subst e;exact hx
  ·rename_i e;by_cases hij:j=i
   ·subst hij;rw[hd]at ht';exact absurd (Option.some.inj ht') e
   ·simp[did,hij]at hdj;exact h.tmp j hj hdj t' ht'
 ·rw[e0];exact h.h0
 ·rw[e0,e1];exact h.h1
 ·rw[e1];exact h.h2
theorem LI.skip {is:List GI} {H:List Row} {eS:Env} {base:List Nat} {PV:List (V×V)} {d:Nat→Bool} {s:St} (h:LI is H eS base PV d s) {i:Nat} (hm:midA is i=true) (hd:dstA is i=none):LI is H eS base PV (did d i) s:=by
 simp only[midA,Bool.and_eq_true,decide_eq_true_eq]at hm;have e0:did d i 0=d 0:=by simp[did,Ne.symm hm.1]
 have e1:did d i (is.length-1)=d (is.length-1):=by
  have:¬is.length-1=i:=by omega
  simp[did,this]
 refine⟨h.base,λj hj hdj t' ht'=>?_,?_,?_,?_⟩
 ·by_cases hij:j=i
  ·subst hij;rw[hd]at ht';cases ht'
  ·simp[did,hij]at hdj;exact h.tmp j hj hdj t' ht'
 ·rw[e0];exact h.h0
 ·rw[e0,e1];exact h.h1
 ·rw[e1];exact h.h2
section
variable {P:Program} {GL:Globals} {is:List GI} {clos:List (List Nat)} {H:List Row} {eS:Env} {base:List Nat} {PV:List (V×V)}
theorem LI.same {d:Nat→Bool} {s:St} (h:LI is H eS base PV d s) {i:Nat} (hdep:∀j∈(clos[i]?).getD [],d j=true) {l:List Nat} (hr:rdA is clos base i l=true):Same eS s.e l:=by
 intro t ht;have h1:=List.all_eq_true.1 hr t ht;rcases Bool.or_eq_true_iff.1 h1 with h2|h2
 ·exact h.base t (by simpa using h2)
 ·obtain⟨j,hj,h3⟩:=List.any_eq_true.1 h2;simp only[Bool.and_eq_true,decide_eq_true_eq,beq_iff_eq]at h3;exact h.tmp j h3.1 (hdep j hj) t h3.2
theorem LI.core {d:Nat→Bool} {s:St} (h:LI is H eS base PV d s) {i:Nat} (hi:i <is.length) (hdi:d i=false) (hdep:∀j∈(clos[i]?).getD [],d j=true) (hup:∀j <is.length,i∈(clos[j]?).getD []→d j=false)
  (hs:Same eS s.e (is.getD i default).i.rd) (hw:∀t,dstA is i=some t→base.contains t=false∧∀j <is.length,i≠j→dstA is j≠some t) (hc:coreA is clos H eS PV i (is.getD i default).i=true):
  awpI P GL (is.getD i default).i (λs1=>LI is H eS base PV (did d i) s1) s:=by
 have hdst:dstA is i=(is.getD i default).i.dst:=rfl;generalize (is.getD i default).i=ai at*;obtain⟨J,hJ⟩:=h.rows;cases ai<;>simp only[coreA,Bool.and_eq_true,Bool.false_eq_true]at hc
 case p t pi=>
  obtain⟨hm,hc⟩:=hc;split at hc
  ·rename_i x hx;have hv:pi.val s.e s.h=some x:=by
    rw[PI.val_congr (e:=eS) hs,hJ];exact PI.val_grow hx
   simp only[awpI,AI.step,hv,Option.map_some];obtain⟨h1,h2⟩:=hw t hdst;exact h.put hm hdst h1 h2 (D.beq_eq hc)
  ·cases hc
 case mv t x=>
  obtain⟨hm,hc1,hc2⟩:=hc;obtain⟨h1,h2⟩:=hw t hdst;have he:x.ev s.e=x.ev eS:=Same.ev hs;have hcl:x.clear s.e=s.e:=by
   cases x with
   |t n b=>cases b<;>simp[Opd.wr]at hc1 ⊢
   |c _=>rfl
   |g _ _=>rfl
  simp only[awpI,AI.step,hcl,he];exact h.put hm hdst h1 h2 (D.beq_eq hc2)
 case mkm t=>
  simp only[decide_eq_true_eq]at hc;obtain⟨⟨rfl,hn⟩,hc⟩:=hc;obtain⟨h1,h2⟩:=hw t hdst;have hH:=h.h0 hdi;have hl:d (is.length-1)=false:=by
   cases hl:d (is.length-1)with
   |false=>rfl
   |true=>
    obtain⟨es,st,ck,e,_⟩:=h.h2 hl;rw[hH]at e;have:=congrArg List.length e;simp at this
  simp only[awpI,AI.step,hH];refine⟨λt' ht'=>?_,λj hj hdj t' ht'=>?_,?_,?_,?_⟩
  ·have:t≠t':=by rintro rfl;simp at h1;exact h1 ht'
   simp[find,this];exact h.base t' ht'
  ·simp only[find];split
   ·rename_i e;subst e;exact D.beq_eq hc
   ·rename_i e;by_cases hij:j=0
    ·subst hij;rw[hdst]at ht';exact absurd (Option.some.inj ht') e
    ·simp[did,hij]at hdj;exact h.tmp j hj hdj t' ht'
  ·intro h3;simp[did]at h3
  ·intro _ _;exact⟨[],[],0,rfl,rfl,by simp⟩
  ·intro h3;have:¬is.length-1=0:=by omega
   simp[did,this,hl]at h3
 case mput m k v st ks=>
  simp only[Bool.not_eq_true',beq_iff_eq,List.contains_iff_mem]at hc;obtain⟨⟨⟨⟨⟨hm,hm2⟩,rfl,rfl⟩,h0⟩,hlast⟩,hc⟩:=hc;have hd0:=hdep 0 h0;have hd1:=hup (is.length-1) (by omega) hlast;obtain⟨es,st,ck,hh,hlen,hPV⟩:=h.h1 hd0 hd1;have em:m.ev s.e= .mref H.length:=by rw[Same.ev (e:=eS) (Same.left hs)];exact D.beq_eq hm2
  have ek:k.ev s.e=k.ev eS:=Same.ev (Same.left (Same.right hs));have ev:v.ev s.e=v.ev eS:=Same.ev (Same.right (Same.right hs));split at hc
  ·rename_i kv vv hk hv;simp only[Bool.and_eq_true]at hc;obtain⟨hik,hmem⟩:=hc;obtain⟨x,hx,hbx⟩:=List.any_eq_true.1 hmem;have hxe:=V.beqs_eq hbx;simp only[List.cons.injEq,and_true]at hxe;have hxm:(kv,vv)∈PV:=by rw[←hxe.1,←hxe.2];exact hx
   obtain⟨n,rfl⟩:∃n,kv= .int .i64 n:=by
    cases kv with
    |int kk n=>cases kk<;>simp[intKey]at hik;exact⟨n,rfl⟩
    |_=>simp[intKey]at hik
   obtain⟨r,hr⟩:=mfind_int (k:=n) (es:=es) λkv hkv=>(hPV kv hkv).1;have hkO:keyOK false [0] (.int .i64 n)=true:=by simp[keyOK,V.cells,V.eqL,V.eq1]
   have hrow:s.h[H.length]?=some (.map es st ck):=by rw[hh];simp
   have hset:∀R,s.h.set H.length R=H++[R]:=λR=>by rw[hh,List.set_append_right _ _ (Nat.le_refl _)];simp
   have fin:∀es' st' ck',MOK PV es' st'→LI is H eS base PV (did d i) ⟨s.e,H++[.map es' st' ck']⟩:=by
    intro es' st' ck' hok;have hm':=hm;simp only[midA,Bool.and_eq_true,decide_eq_true_eq]at hm';have e0:did d i 0=d 0:=by simp[did,Ne.symm hm'.1]
    have e1:did d i (is.length-1)=d (is.length-1):=by
     have:¬is.length-1=i:=by omega
     simp[did,this]
    have hsk:=h.skip hm (by rw[hdst];rfl);refine⟨hsk.base,hsk.tmp,?_,?_,?_⟩
    ·rw[e0,hd0];intro h;cases h
    ·intro _ _;exact⟨es',st',ck',rfl,hok⟩
    ·rw[e1,hd1];intro h;cases h
   simp only[awpI,AI.step,em,hrow,ek,ev,hk,hv,hkO,if_true,hr,hset];cases r with
   |none=>
    refine fin _ _ _ ⟨by simp[hlen],λy hy=>?_⟩;rcases List.mem_append.1 hy with hy|hy
    ·exact hPV y hy
    ·simp at hy;subst hy;exact⟨rfl,hxm⟩
   |some q=>
    refine fin _ _ _ ⟨by simp[hlen],λy hy=>?_⟩;rcases List.mem_or_eq_of_mem_set hy with hy|rfl
    ·exact hPV y hy
    ·exact⟨rfl,hxm⟩
  ·cases hc
 case itr k t x=>
  simp only[decide_eq_true_eq,List.contains_iff_mem]at hc;obtain⟨⟨⟨⟨⟨rfl,hx⟩,ht⟩,hn⟩,hne⟩,h0⟩:=hc;have hd0:=hdep 0 h0;have hil:is.length-1=i:=by omega
  obtain⟨es,st,ck,hh,hok⟩:=h.h1 hd0 (by rw[hil];exact hdi);have ex:x.ev s.e= .mref H.length:=by rw[Same.ev (e:=eS) hs];exact D.beq_eq hx
  have hrow:s.h[H.length]?=some (.map es st ck):=by rw[hh];simp
  obtain⟨h1,h2⟩:=hw t hdst;simp only[awpI,ex,hrow];refine⟨λt' ht'=>?_,λj hj hdj t' ht'=>?_,?_,?_,?_⟩
  ·have:t≠t':=by rintro rfl;simp at h1;exact h1 ht'
   simp[find,this];exact h.base t' ht'
  ·simp only[find];split
   ·rename_i e;subst e;rw[D.beq_eq ht,hh];simp
   ·rename_i e;by_cases hij:j=i
    ·subst hij;rw[hdst]at ht';exact absurd (Option.some.inj ht') e
    ·simp[did,hij]at hdj;exact h.tmp j hj hdj t' ht'
  ·intro h3;simp[did,Ne.symm hne,hd0]at h3
  ·intro _ h3;rw[hil]at h3;simp[did]at h3
  ·intro _;exact⟨es,st,ck,by rw[hh];simp,hok⟩
theorem litV {K:St→Prop} (hne:0 <is.length) (hop:(List.range is.length).all (opA is clos H eS base PV)=true) {e0:Env} (hb:∀t∈base,find e0 t=find eS t)
  (hK:∀e es st ck,(∀t∈base,find e t=find eS t)→(∀i <is.length,∀t,dstA is i=some t→find e t=find eS t)→MOK PV es st→K ⟨e,H++[.map es st ck,itR H.length ck []]⟩):
  AnyD P GL is clos K is.length (List.range is.length) ⟨e0,H⟩:=by
 refine anyD_all (LI is H eS base PV) ?_ ?_ ?_
 ·intro d i s hi hdi hdep hup hI;have ho:=List.all_eq_true.1 hop i (List.mem_range.2 hi);unfold opA at ho;simp only[Bool.and_eq_true]at ho;obtain⟨⟨hr,hw⟩,hc⟩:=ho;have hs:=hI.same hdep hr;have hw2:∀t,dstA is i=some t→base.contains t=false∧∀j <is.length,i≠j→dstA is j≠some t:=by
   intro t ht;rw[ht]at hw;simp only[Bool.and_eq_true,Bool.not_eq_true']at hw;refine⟨hw.1,λj hj hij=>?_⟩;have:=List.all_eq_true.1 hw.2 j (List.mem_range.2 hj);simpa[hij]using this
  have hdst:dstA is i=(is.getD i default).i.dst:=rfl;have hcore:=λhs hc=>hI.core (P:=P) (GL:=GL) hi hdi hdep hup hs hw2 hc;clear hw;unfold awpG;generalize is.getD i default=x at*;obtain⟨g,ai⟩:=x;have hskip:(midA is i&&(match dstA is i with|some d=>D.beq (find eS d) (.tup [])|none=>true))=true→LI is H eS base PV (did d i) ⟨setO s.e ai.dst (.tup []),s.h⟩:=by
   intro h;simp only[Bool.and_eq_true]at h;rw[←hdst];cases hd:dstA is i with
   |none=>exact hI.skip h.1 hd
   |some t=>
    have h2:=h.2;rw[hd]at h2;exact hI.put h.1 hd (hw2 t hd).1 (hw2 t hd).2 (D.beq_eq h2).symm
  cases g with
  |none=>exact hcore hs hc
  |some tw=>
   obtain⟨t,want⟩:=tw;have ht:find s.e t=find eS t:=hs t (by simp[GI.rd]);have hs':Same eS s.e ai.rd:=λn hn=>hs n (by simp[GI.rd,hn]);simp only at hc ⊢;rw[ht];split at hc
   ·rename_i b hb;rw[hb];simp only;by_cases hbw:b=want
    ·rw[if_pos hbw]at hc ⊢;exact hcore hs' hc
    ·rw[if_neg hbw]at hc ⊢;exact hskip hc
   ·rename_i hb;rw[hb];exact hskip hc
   ·cases hc
 ·intro d s hd hI;obtain⟨es,st,ck,hh,hok⟩:=hI.h2 (hd _ (by omega));obtain⟨e,h⟩:=s;simp only at hh;subst hh;exact hK e es st ck hI.base (λi hi t ht=>hI.tmp i hi (hd i hi) t ht) hok
 ·refine⟨hb,λi hi h=>?_,λ_=>rfl,λh=>?_,λh=>?_⟩
  ·have:=of_decide_eq_true h;omega
  ·have:=of_decide_eq_true h;omega
  ·have:=of_decide_eq_true h;omega
end
def tRun:List GI→St→Option St
 |[],s=>some s
 |x::r,s=>
  let go:Option St:=match x.i with
   | .itr _ d _=>some ⟨(d,.ref s.h.length 0)::s.e,s.h++[.dead]⟩
   |i=>i.step s
  match (match x.g with
   |none=>go
   |some (t,want)=>match find s.e t with
    | .v (.bool b)=>if b=want then go else some ⟨setO s.e x.i.dst (.tup []),s.h⟩
    | .tup []=>some ⟨setO s.e x.i.dst (.tup []),s.h⟩
    |_=>none)with
  |some s'=>tRun r s'
  |none=>none
section
variable (a:List V)
def bH0:List Row:=[.cells (a.map .v),.cells ((a.drop 15).map .v)]
def bE0:Env:=[(1,.ref 0 0),(3,.ref 1 0),(4,.v (.int .i64 0))]
def bE:Env:=match tRun (oG 202 3) ⟨bE0,bH0 a⟩with
 |some s=>s.e
 |none=>[]
def bPV:List (V×V):=(oG 202 3).filterMap λx=>match x.i with
 | .mput _ k v _ _=>match (k.ev (bE a)).toV,(v.ev (bE a)).toV with
  |some k,some v=>some (k,v)
  |_,_=>none
 |_=>none
def bT:List V:=(bPV a).filterMap λx=>match x.2 with
 | .bool true=>some x.1
 |_=>none
def bL:List V:=(bT a).foldl (λL k=>L++L.filterMap λh=>V.bin .or h k) [.int .i64 0]
def bClos:List (List Nat):=match gA 202 with
 | .seq _ (.seq _ (.seq _ (.seq (.seq (.regV _ _ c) _) _)))=>c
 |_=>[]
def hasIn (L:List V) (x:V):Bool:=L.any λy=>V.beqs [y] [x]
def bareOK:Bool:=(List.range (oG 202 3).length).all (opA (oG 202 3) bClos (bH0 a) (bE a) [1,3,4] (bPV a))&&
 ((bPV a).all (λx=>match x.2 with| .bool _=>true|_=>false)&&([1,3,4].all λt=>D.beq (find bE0 t) (find (bE a) t))&&D.beq (find (bE a) 69) (.ref 3 0))&&
 (bL a).all λh=>(bT a).all (λk=>match V.bin .or h k with|some x=>hasIn (bL a) x|none=>false)&&
  (match pRun (bH0 a) (oG 202 8) [(1,.ref 0 0),(4,.v h),(69,.ref 3 0),(71,.v (.bool false))]with
  |some e=>D.beq (find e 2) (.v (.bool true))
  |none=>false)
end
theorem hasIn_mem {L:List V} {x:V} (h:hasIn L x=true):x∈L:=by
 obtain⟨y,hy,hb⟩:=List.any_eq_true.1 h;have:=V.beqs_eq hb;simp only[List.cons.injEq,and_true]at this;rw[←this];exact hy
theorem bare_loop (a:List V) (hb:bareOK a=true) (es:List (V×V)) (st:List Nat) (ck:Nat) (hok:MOK (bPV a) es st) (Q:AExit→St→Prop) (hQ:∀h seen,h∈bL a→Q (.exit 0) ⟨[(1,.ref 0 0),(4,.v h),(69,.ref 3 0),(71,.v (.bool false))],bH0 a++[.map es st ck,itR 2 ck seen]⟩):
  awp Tryz.prog GLx (.loop (lG 202 0)) Q ⟨[(1,.ref 0 0),(4,.v (.int .i64 0)),(69,.ref 3 0)],bH0 a++[.map es st ck,itR 2 ck []]⟩:=by
 unfold bareOK at hb;simp only[Bool.and_eq_true]at hb;obtain⟨⟨-,⟨hbool,-⟩,-⟩,hL⟩:=hb;have h0:V.int .i64 0∈bL a:=by
  unfold bL;generalize bT a=T;have:∀(T L:List V),V.int .i64 0∈L→V.int .i64 0∈T.foldl (λL k=>L++L.filterMap λh=>V.bin .or h k) L:=by
   intro T;induction T with
   |nil=>intro L h;exact h
   |cons k T ih=>intro L h;exact ih _ (List.mem_append_left _ h)
  exact this T _ (by simp)
 refine⟨λn s=>∃h seen e,h∈bL a∧s=⟨e,bH0 a++[.map es st ck,itR 2 ck seen]⟩∧(find e 1= .ref 0 0∧find e 4= .v h∧find e 69= .ref 3 0)∧n=(st.filter λy=> !seen.contains y).length,⟨_,_,[],_,h0,rfl,⟨rfl,rfl,rfl⟩,rfl⟩,?_⟩;rintro n s ⟨h,seen,e,hh,rfl,⟨e1,e4,e69⟩,rfl⟩;have hlen:(bH0 a).length=2:=rfl;have hr2:∀sn,(bH0 a++[.map es st ck,itR 2 ck sn])[2]?=some (.map es st ck):=λsn=>by simp[bH0]
 have hr3:∀sn,(bH0 a++[.map es st ck,itR 2 ck sn])[3]?=some (itR 2 ck sn):=λsn=>by simp[bH0]
 simp only[Zgl 202 0,awp_seq,awp_reg,awp_block,awp_cond,Zge 202 4,awpOps_plain,awpI];refine .inr ⟨3,2,ck,seen,es,st,by simp[e69],hr3 seen,hr2 seen,?_,?_⟩
 ·intro _;simp[awp_exit,e1,e4,e69];exact hQ _ _ hh
 ·intro i y kv hy hkv hns;have hset:(bH0 a++[.map es st ck,itR 2 ck seen]).set 3 (itR 2 ck (seen++[y]))=bH0 a++[.map es st ck,itR 2 ck (seen++[y])]:=by simp[bH0]
  have hless:(st.filter λz=> !(seen++[y]).contains z).length <(st.filter λz=> !seen.contains z).length:=by
   have hm:=List.mem_of_getElem? hy;have e:st.filter (λz=> !(seen++[y]).contains z)=(st.filter λz=> !seen.contains z).filter λz=>decide (z≠y):=by
    rw[List.filter_filter]
    congr 1
    funext z
    by_cases h1:z=y<;>simp[h1]
   rw[e];refine List.length_filter_lt_length_iff_exists.2 ⟨y,?_,by simp⟩;rw[List.mem_filter];exact⟨hm,by simpa using hns⟩
  obtain⟨k,v⟩:=kv;obtain⟨hik,hmem⟩:=hok.2 (k,v) (List.mem_of_getElem? hkv);have hv:=List.all_eq_true.1 hbool _ hmem;obtain⟨b,rfl⟩:∃b,v= .bool b:=by
   cases v with
   |bool b=>exact⟨b,rfl⟩
   |_=>simp at hv
  rw[hset];simp[awp_skip,e1,e4,e69];simp only[Zge 202 5,awpOps_plain,awpI];refine⟨3,2,ck,seen,es,st,i,y,(k,.bool b),rfl,hr3 _,hr2 _,hy,hkv,?_⟩;simp[Zge 202 6];cases b with
  |false=>
   simp;refine⟨_,by simpa using hless,h,hh,seen++[y],?_⟩;simp
  |true=>
   have hk:=List.all_eq_true.1 hL h hh;simp only[Bool.and_eq_true]at hk;have hkT:k∈bT a:=List.mem_filterMap.2 ⟨_,hmem,rfl⟩;have hk2:=List.all_eq_true.1 hk.1 k hkT;split at hk2
   ·rename_i x hx;simp at hx;simp[Zge 202 7,hx];exact⟨_,by simpa using hless,x,hasIn_mem hk2,seen++[y],by simp⟩
   ·cases hk2
theorem bare_ok (a:List V) (ha:a.length=19) (hb:bareOK a=true):PSp Tryz.prog GLx 202 [.agg a] [.bool true]:=by
 have hlp:=bare_loop a hb;have hb':=hb;unfold bareOK at hb';simp only[Bool.and_eq_true]at hb';obtain⟨⟨hop,⟨-,hbase⟩,h69⟩,hL⟩:=hb';refine psp_of_awp (Zkk 202) rfl ?_;simp only[Zga 202,awp_seq,awp_reg,awp_block,Zge 202 0,Zge 202 1,Zge 202 2,entry];obtain⟨a0,a1,a2,a3,a4,a5,a6,a7,a8,a9,a10,a11,a12,a13,a14,a15,a16,a17,a18,he⟩:∃a0 a1 a2 a3 a4 a5 a6 a7 a8 a9 a10 a11 a12 a13 a14 a15 a16 a17 a18,a=[a0,a1,a2,a3,a4,a5,a6,a7,a8,a9,a10,a11,a12,a13,a14,a15,a16,a17,a18]:=by
  match a,ha with
  |[a0,a1,a2,a3,a4,a5,a6,a7,a8,a9,a10,a11,a12,a13,a14,a15,a16,a17,a18],_=>exact⟨_,_,_,_,_,_,_,_,_,_,_,_,_,_,_,_,_,_,_,rfl⟩
 have hH:[Row.cells [D.v a0,D.v a1,D.v a2,D.v a3,D.v a4,D.v a5,D.v a6,D.v a7,D.v a8,D.v a9,D.v a10,D.v a11,D.v a12,D.v a13,D.v a14,D.v a15,D.v a16,D.v a17,D.v a18],Row.cells [D.v a15,D.v a16,D.v a17,D.v a18]]=bH0 a:=by rw[he];rfl
 rw[he];simp[V.cells,putL];rw[hH];clear he;rw[awp_regV];refine litV (of_decide_eq_true (by kernel_rfl)) (by have h2:=hop;unfold bClos at h2;rw[Zga 202]at h2;exact h2) (λt ht=>D.beq_eq (List.all_eq_true.1 hbase t ht)) ?_;intro e es st ck hbs htmp hok;have e1:find e 1= .ref 0 0:=by rw[hbs 1 (by simp)];exact(D.beq_eq (List.all_eq_true.1 hbase 1 (by simp))).symm
 have e4:find e 4= .v (.int .i64 0):=by rw[hbs 4 (by simp)];exact(D.beq_eq (List.all_eq_true.1 hbase 4 (by simp))).symm
 have e69:find e 69= .ref 3 0:=by
  rw[htmp 71 (of_decide_eq_true (by kernel_rfl)) 69 (by kernel_rfl)];exact D.beq_eq h69
 have e3:(bH0 a).length=2:=rfl;simp[e1,e4,e69,e3];refine hlp es st ck hok _ ?_;intro h seen hh;have h1:=List.all_eq_true.1 hL h hh;simp only[Bool.and_eq_true]at h1;have h2:=h1.2;split at h2
 ·rename_i e' he';simp;refine pRun_ok he' ?_;simp[awp_ret,Zgr 202,D.beq_eq h2]
 ·cases h2
end Go.Va
